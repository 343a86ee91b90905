import PyProof.Rows.All
import HandS.ForMost
import HandS.More
import HandS.TupAny
import HandS.Style
import HandS.SetKeys
import HandS.IsInst
import HandS.Flow
import HandS.Exc
import HandS.CallSlots
import HandS.TryOnly
import KE.KEqDict
import HandS.ExcIs
import HandS.ExcOwn
import KE.KExcIs
import HandS.ExcCtx
import HandS.Conv
import KE.KDictZip
import KE.GoesZip
import KE.GoesMore
import KE.KDictItemsList
import HandS.ListItems
import HandS.Iter
import HandS.Base
import HandS.Comp
import HandS.SuiteRaise
import HandS.WordsExc
import PySem.Challenge.RW_kindspan_k11_no_join
import HandS.Ends
set_option Elab.async false
set_option linter.all false
set_option maxRecDepth 100000
/-! Core: a small calculus for the Python that the program and the laws are written in: data, expressions, statements, what they come to, and when a Python text is of that form. -/
namespace KS
open PySem L2

/-! ## data -/
/-- the words that the texts know; a text is told by its place here -/
def words : List Str := ([ "any", "number", "truth", "fun", "pair", "list", "name", "call", "let", "when", "open", "split", "op",
  "empty", "rec", "link", "plus", "minus", "less", "same", "x", "y", "f", "abcdefgh", "xx", "z", "", "no", "wrong", "no name", "stuck", "jump", "back", "drop", "end", "one", "again" ] : List String).map Str.ofString
/-- a dict's key: an int, a word -/
abbrev Ky := Sum Int Nat
inductive D where
  | non | bl (b : Bool) | int (i : Int) | str (s : Nat)
  | tup (xs : List D) | lst (xs : List D) | dic (kvs : List (Ky × D))
  | exc (c : Nat) (pl : List D)
  /-- the script: a list that is only read -/
  | scr (ns : List Int)
  deriving Inhabited

/-- what a name holds: nothing, data that stays, a list or dict of the def's own, an instance of its own (its fields by word) -/
inductive SV where
  | dead | dat (d : D) | ol (xs : List D) | od (kvs : List (Ky × D)) | ob (c : Nat) (fs : List (Nat × SV))
  deriving Inhabited
abbrev Env := List SV
/-- a place: a name, or a name's field -/
abbrev Pl := Nat × Option Nat

/-- a call's end: the value and what was handed in to be changed -/
inductive RF where
  | ok (d : D) (us : List SV) | exc (c : Nat) (pl : List D) | stuck

/-! ### a def's run as a tree: a call, a look that must tell something, a test each a node, so that a proof goes from node to node -/
inductive T : Type 1 where
  | ok (d : D) (us : List SV) | exc (c : Nat) (pl : List D) | stuck
  | call (f : Nat) (as : List SV) (k : RF → T)
  | opt {α : Type} (o : Option α) (k : α → T)
  | test (b : Bool) (k : Bool → T)
  | sub (t : T) (k : RF → T)
def T.tri (o : Option Bool) (t f : Unit → T) : T := .opt o fun b => .test b fun b => match b with
  | true => t ()
  | false => f ()
def T.un (b : Bool) (k : Unit → T) : T := match b with
  | true => .stuck
  | false => k ()
def ofK {α : Type} (o : Option α) (ρ : Env) (k : α → Env → T) : T := .opt o fun a => k a ρ
/-- what the calls come to -/
abbrev Gm := Nat → List SV → RF
def T.den (G : Gm) : T → RF
  | .ok d us => .ok d us
  | .exc c pl => .exc c pl
  | .stuck => .stuck
  | .call f as k => (k (G f as)).den G
  | .opt o k => match o with
    | some a => (k a).den G
    | none => .stuck
  | .test b k => (k b).den G
  | .sub t k => (k (t.den G)).den G
/-- a call's end is R -/
@[irreducible] def Goes (G : Gm) (t : T) (R : RF) : Prop := t.den G = R
section
variable {G : Gm} {α : Type} {R : RF}
theorem goes_iff {t : T} : Goes G t R ↔ t.den G = R := by unfold Goes; exact Iff.rfl
theorem go_call {f : Nat} {as : List SV} {k : RF → T} {r : RF} (h : G f as = r) (q : Goes G (k r) R) : Goes G (.call f as k) R := by subst h; rw [goes_iff] at *; exact q
theorem go_o {o : Option α} {k : α → T} {a : α} (h : o = some a) (q : Goes G (k a) R) : Goes G (.opt o k) R := by subst h; rw [goes_iff] at *; exact q
theorem go_tt {b : Bool} {k : Bool → T} (h : b = true) (q : Goes G (k true) R) : Goes G (.test b k) R := by subst h; rw [goes_iff] at *; exact q
theorem go_ff {b : Bool} {k : Bool → T} (h : b = false) (q : Goes G (k false) R) : Goes G (.test b k) R := by subst h; rw [goes_iff] at *; exact q
theorem go_ok {r : D} {us : List SV} (h : RF.ok r us = R) : Goes G (.ok r us) R := by rw [goes_iff]; exact h
theorem go_sub {t : T} {k : RF → T} {r : RF} (h : Goes G t r) (q : Goes G (k r) R) : Goes G (.sub t k) R := by rw [goes_iff] at *; subst h; exact q
theorem go_exc {c : Nat} {pl : List D} (h : RF.exc c pl = R) : Goes G (.exc c pl) R := by rw [goes_iff]; exact h
end

/-! ### data as the library's -/
mutual
def D.py : D → PyData
  | .non => .none
  | .bl b => .bool b
  | .int i => .int i
  | .str s => .str (words.getD s default)
  | .tup xs => .tuple (D.pyAll xs)
  | .lst xs => .list (D.pyAll xs)
  | .dic _ => .none
  | .exc _ _ => .none
  | .scr _ => .none
def D.pyAll : List D → List PyData
  | [] => []
  | d :: ds => D.py d :: D.pyAll ds
end
/- what == is asked of: no dict, no error within -/
mutual
def D.cmp : D → Bool
  | .tup xs => D.cmpAll xs
  | .lst xs => D.cmpAll xs
  | .dic _ => false
  | .exc _ _ => false
  | .scr _ => false
  | _ => true
def D.cmpAll : List D → Bool
  | [] => true
  | d :: ds => D.cmp d && D.cmpAll ds
end
mutual
def D.dep : D → Nat
  | .tup xs => D.depAll xs + 1
  | .lst xs => D.depAll xs + 1
  | _ => 0
def D.depAll : List D → Nat
  | [] => 0
  | d :: ds => max (D.dep d) (D.depAll ds)
end
/- no list, no dict within -/
mutual
def D.flatT : D → Bool
  | .tup xs => D.flatTAll xs
  | .lst _ => false
  | .dic _ => false
  | .scr _ => false
  | .exc _ _ => false
  | _ => true
def D.flatTAll : List D → Bool
  | [] => true
  | d :: ds => D.flatT d && D.flatTAll ds
end
mutual
def D.eqv : D → D → Bool
  | .non, .non => true
  | .bl a, .bl b => a == b
  | .bl a, .int j => (if a then 1 else 0) == j
  | .int i, .bl b => i == (if b then 1 else 0)
  | .int i, .int j => i == j
  | .str x, .str y => x == y
  | .lst xs, .lst ys => D.eqvAll xs ys
  | .tup xs, .tup ys => D.eqvAll xs ys
  | _, _ => false
def D.eqvAll : List D → List D → Bool
  | [], [] => true
  | x :: xs, y :: ys => D.eqv x y && D.eqvAll xs ys
  | _, _ => false
end
def D.scalar : D → Bool
  | .non => true
  | .bl _ => true
  | .int _ => true
  | .str _ => true
  | _ => false
def D.isList : D → Bool
  | .lst _ => true
  | _ => false
def D.isTuple : D → Bool
  | .tup _ => true
  | _ => false

def D.isDic : D → Bool
  | .dic _ => true
  | _ => false

def keyOf : D → Option Ky
  | .int i => some (.inl i)
  | .str s => some (.inr s)
  | _ => none
def keyD : Ky → D
  | .inl i => .int i
  | .inr s => .str s
def getK (kvs : List (Ky × D)) (k : Ky) : Option D := (kvs.find? fun kv => decide (kv.1 = k)).map (·.2)
def setK (kvs : List (Ky × D)) (k : Ky) (v : D) : List (Ky × D) :=
  if (kvs.any fun kv => decide (kv.1 = k)) = true then kvs.map fun kv => if kv.1 = k then (kv.1, v) else kv else kvs ++ [(k, v)]
def mergeD (kvs more : List (Ky × D)) : List (Ky × D) := more.foldl (fun acc kv => setK acc kv.1 kv.2) kvs

def truth : D → Option Bool
  | .non => some false
  | .bl b => some b
  | .int i => some (i != 0)
  | .str _ => none
  | .tup xs => some (!xs.isEmpty)
  | .lst xs => some (!xs.isEmpty)
  | .dic _ => none
  | .exc _ _ => none
  | .scr ns => some (!ns.isEmpty)

/-! ## operators -/
inductive Op where
  | add | sub | mul | fdiv | mod | pow | eq | ne | lt | le | gt | ge | isin | notin | isx | isnx | ladd
  deriving DecidableEq

def lim : Nat := 16777216
def inRange (j : Int) : Bool := decide (-18446744073709551616 < j) && decide (j < 18446744073709551616)
def eqOk (a b : D) : Bool := D.cmp a && D.cmp b && decide (min (D.dep a) (D.dep b) ≤ 190)
def inD (a : D) (xs : List D) : Option Bool := if (a.scalar && xs.all D.scalar) = true then some (xs.any fun y => D.eqv y a) else none

def dop_add : D → D → Option D
  | .int i, .int j => some (.int (i + j))
  | .tup xs, .tup ys => if xs.length + ys.length ≤ lim then some (.tup (xs ++ ys)) else none
  | .lst xs, .lst ys => if xs.length + ys.length ≤ lim then some (.lst (xs ++ ys)) else none
  | _, _ => none
/-- lists put together: a new one -/
def dop_ladd : D → D → Option D
  | .lst xs, .lst ys => if xs.length + ys.length ≤ lim then some (.lst (xs ++ ys)) else none
  | _, _ => none
def dop_sub : D → D → Option D
  | .int i, .int j => some (.int (i - j))
  | _, _ => none
def dop_mul : D → D → Option D
  | .int i, .int j => if (inRange i || inRange j) = true then some (.int (i * j)) else none
  | .lst xs, .int j => if -9223372036854775808 ≤ j ∧ j < 9223372036854775808 ∧ xs.length * j.toNat ≤ lim then some (.lst (List.replicate j.toNat xs).flatten) else none
  | _, _ => none
def dop_fdiv : D → D → Option D
  | .int i, .int j => if 0 < j ∧ j < 1073741824 then some (.int (i / j)) else none
  | _, _ => none
def dop_mod : D → D → Option D
  | .int i, .int j => if 0 < j then some (.int (i % j)) else none
  | _, _ => none
def dop_pow : D → D → Option D
  | .int i, .int j => if 0 ≤ j ∧ j ≤ 1000000 ∧ i.natAbs < 18446744073709551616 then some (.int (i ^ j.toNat)) else none
  | _, _ => none
/-- two dicts -/
def kvOk (a : List (Ky × D)) : Bool := a.all fun kv => D.cmp kv.2 && decide (D.dep kv.2 ≤ 180)
def hitKV (b : List (Ky × D)) : List (Ky × D) → Bool
  | [] => true
  | (k, v) :: r => match getK b k with
    | some u => D.eqv v u && hitKV b r
    | none => false
def eqKV (a b : List (Ky × D)) : Bool := a.length == b.length && hitKV b a
def dop_eq : D → D → Option D
  | .dic a, .dic b => if (kvOk a && kvOk b) = true then some (.bl (eqKV a b)) else none
  | a, b => if eqOk a b = true then some (.bl (D.eqv a b)) else none
def dop_ne : D → D → Option D
  | .dic a, .dic b => if (kvOk a && kvOk b) = true then some (.bl (!eqKV a b)) else none
  | a, b => if eqOk a b = true then some (.bl (!D.eqv a b)) else none
def dop_lt : D → D → Option D
  | .int i, .int j => some (.bl (decide (i < j)))
  | _, _ => none
def dop_le : D → D → Option D
  | .int i, .int j => some (.bl (decide (i ≤ j)))
  | _, _ => none
def dop_gt : D → D → Option D
  | .int i, .int j => some (.bl (decide (j < i)))
  | _, _ => none
def dop_ge : D → D → Option D
  | .int i, .int j => some (.bl (decide (j ≤ i)))
  | _, _ => none
def dop_isin : D → D → Option D
  | a, .tup xs => (inD a xs).map .bl
  | a, .lst xs => (inD a xs).map .bl
  | a, .dic kvs => (keyOf a).map fun k => .bl (getK kvs k).isSome
  | _, _ => none
def dop_notin : D → D → Option D
  | a, .tup xs => (inD a xs).map fun b => .bl !b
  | a, .lst xs => (inD a xs).map fun b => .bl !b
  | a, .dic kvs => (keyOf a).map fun k => .bl !(getK kvs k).isSome
  | _, _ => none
def dop_isx : D → D → Option D
  | .bl a, .bl b => some (.bl (decide (a = b)))
  | .non, .non => some (.bl true)
  | .tup _, .non => some (.bl false)
  | .lst _, .non => some (.bl false)
  | .dic _, .non => some (.bl false)
  | .exc _ _, .non => some (.bl false)
  | .str _, .non => some (.bl false)
  | .int _, .non => some (.bl false)
  | .bl _, .non => some (.bl false)
  | _, _ => none
def dop_isnx : D → D → Option D
  | .bl a, .bl b => some (.bl (!decide (a = b)))
  | .non, .non => some (.bl false)
  | .tup _, .non => some (.bl true)
  | .lst _, .non => some (.bl true)
  | .dic _, .non => some (.bl true)
  | .exc _ _, .non => some (.bl true)
  | .str _, .non => some (.bl true)
  | .int _, .non => some (.bl true)
  | .bl _, .non => some (.bl true)
  | _, _ => none
def opD : Op → D → D → Option D
  | .add => dop_add
  | .sub => dop_sub
  | .mul => dop_mul
  | .fdiv => dop_fdiv
  | .mod => dop_mod
  | .pow => dop_pow
  | .eq => dop_eq
  | .ne => dop_ne
  | .lt => dop_lt
  | .le => dop_le
  | .gt => dop_gt
  | .ge => dop_ge
  | .isin => dop_isin
  | .notin => dop_notin
  | .isx => dop_isx
  | .isnx => dop_isnx
  | .ladd => dop_ladd

/-- the item at an index of any sign -/
def ixD : D → D → Option D
  | .tup xs, .int i => atI xs i
  | .lst xs, .int i => atI xs i
  | .scr ns, .int i => (atI ns i).map .int
  | .dic kvs, .int i => getK kvs (.inl i)
  | .dic kvs, .str s => getK kvs (.inr s)
  | _, _ => none
def cutD (xs : List D) (lo hi : Option Int) : List D := (xs.drop (HT.sIx xs.length 0 lo)).take (HT.sIx xs.length xs.length hi - HT.sIx xs.length 0 lo)
def slcD (d : D) (lo hi : Option Int) : Option D := match d with
  | .tup xs => some (.tup (cutD xs lo hi))
  | .lst xs => some (.lst (cutD xs lo hi))
  | _ => none

/-- the error classes: 0 KindError, 1 NoJoin, 2 NoKind, 3 NoName, 4 Stuck, 5 ValueError; c is k or below it -/
def excSub (c k : Nat) : Bool := c == k || k == 5 || k == 0
/-- the classes that isinstance is asked of -/
inductive Ty where
  | int | bool | str | tuple | dict | list | exc (cs : List Nat)
  deriving DecidableEq

/-- the built-in functions -/
inductive Bif where
  | len | tuple | list | dict | int | all | any | max2 | min2 | lrange | lzip | sum
  deriving DecidableEq

def allBl : List D → Option (List Bool)
  | [] => some []
  | .bl b :: r => (allBl r).map (b :: ·)
  | _ => none
def allInt : List D → Option (List Int)
  | [] => some []
  | .int i :: r => (allInt r).map (i :: ·)
  | _ => none
def zipD : List D → List D → List D
  | a :: as, b :: bs => .tup [a, b] :: zipD as bs
  | _, _ => []
def pairsK : List D → Option (List (Ky × D))
  | [] => some []
  | .tup [k, v] :: r => match keyOf k, pairsK r with
    | some k, some r => some ((k, v) :: r)
    | _, _ => none
  | _ => none
def rangeD (lo hi : Int) : Option (List D) := if lo.natAbs < 4611686018427387904 ∧ hi.natAbs < 4611686018427387904 then some ((List.range (hi - lo).toNat).map fun i => .int (lo + (i : Nat))) else none

def bifD : Bif → List D → Option D
  | .len, [.tup xs] => some (.int xs.length)
  | .len, [.lst xs] => some (.int xs.length)
  | .len, [.scr ns] => some (.int ns.length)
  | .len, [.dic kvs] => some (.int kvs.length)
  | .tuple, [.tup xs] => some (.tup xs)
  | .tuple, [.lst xs] => some (.tup xs)
  | .list, [.tup xs] => some (.lst xs)
  | .list, [.lst xs] => some (.lst xs)
  | .list, [.dic kvs] => some (.lst (kvs.map fun kv => keyD kv.1))
  | .dict, [.lst ps] => (pairsK ps).map fun kvs => .dic (mergeD [] kvs)
  | .dict, [.dic kvs] => some (.dic kvs)
  | .int, [.bl b] => some (.int (if b then 1 else 0))
  | .int, [.int i] => some (.int i)
  | .all, [.lst xs] => (allBl xs).map fun bs => .bl (bs.all id)
  | .any, [.lst xs] => (allBl xs).map fun bs => .bl (bs.any id)
  | .lrange, [.int j] => if j ≤ 16777216 then (rangeD 0 j).map .lst else none
  | .sum, [.lst xs] => (allInt xs).map fun is => .int is.sum
  | .lzip, [.tup xs, .tup ys] => some (.lst (zipD xs ys))
  | .max2, [.int i, .int j] => some (.int (if j > i then j else i))
  | .min2, [.int i, .int j] => some (.int (if j < i then j else i))
  | _, _ => none

/-! ## expressions -/
mutual
inductive E where
  | var (i : Nat) | int (i : Int) | str (s : Nat) | bl (b : Bool) | non
  | glob (g : Nat) | fld (i f : Nat)
  | tup (es : Es) | lst (es : Es) | dic (ks : List Nat) (es : Es)
  | bin (o : Op) (a b : E) | not_ (a : E) | neg (a : E)
  | and_ (a b : E) | or_ (a b : E) | ife (c a b : E)
  | ix (a i : E) | dx (a i : E) | slc (a lo hi : E)
  | get (d k x : E) | setd (p : Pl) (k x : E) | pop (p : Pl)
  | bif (b : Bif) (es : Es) | isi (a : E) (t : Ty)
  | comp (elt : E) (tg : List Nat) (it : It) (c : E)
  | call (f : Nat) (es : Es)
  | mv (i : Nat) | mf
  | dk1 (k v : E) | meth (c f i : Nat) (es : Es) | exf (a : E) | rix (a b : E) | asDat (i : Nat) (e : E)
inductive Es where
  | nil | cons (e : E) (r : Es)
/-- what a loop or comprehension walks -/
inductive It where
  | seq (e : E) | rng1 (a : E) | rng2 (a b : E) | keys (e : E)
end

/-- a list or dict of the def's own, looked at in place -/
def E.place : E → Option Pl
  | .var i => some (i, none)
  | .fld i f => some (i, some f)
  | _ => none
mutual
/-- which names' own things an expression may change -/
def E.tch : E → Nat → Bool
  | .tup es, j => es.tch j
  | .lst es, j => es.tch j
  | .dic _ es, j => es.tch j
  | .bin _ a b, j => a.tch j || b.tch j
  | .not_ a, j => a.tch j
  | .neg a, j => a.tch j
  | .and_ a b, j => a.tch j || b.tch j
  | .or_ a b, j => a.tch j || b.tch j
  | .ife c a b, j => c.tch j || a.tch j || b.tch j
  | .ix a i, j => a.tch j || i.tch j
  | .dx a i, j => a.tch j || i.tch j
  | .slc a lo hi, j => a.tch j || lo.tch j || hi.tch j
  | .get d k x, j => d.tch j || k.tch j || x.tch j
  | .setd p k x, j => p.1 == j || k.tch j || x.tch j
  | .pop p, j => p.1 == j
  | .bif _ es, j => es.tch j
  | .isi a _, j => a.tch j
  | .comp e _ it c, j => e.tch j || it.tch j || c.tch j
  | .call _ es, j => es.tch j
  | .mv i, j => i == j
  | .dk1 k v, j => k.tch j || v.tch j
  | .meth _ _ i es, j => i == j || es.tch j
  | .exf a, j => a.tch j
  | .rix a b, j => a.tch j || b.tch j
  | .var _, _ => false
  | .int _, _ => false
  | .str _, _ => false
  | .bl _, _ => false
  | .non, _ => false
  | .glob _, _ => false
  | .fld _ _, _ => false
  | .mf, _ => false
  | .asDat _ e, j => e.tch j
def Es.tch : Es → Nat → Bool
  | .nil, _ => false
  | .cons e r, j => e.tch j || r.tch j
def It.tch : It → Nat → Bool
  | .seq e, j => e.tch j
  | .rng1 a, j => a.tch j
  | .rng2 a b, j => a.tch j || b.tch j
  | .keys e, j => e.tch j
end
mutual
/-- an expression that changes nothing of anybody's own -/
def E.still : E → Bool
  | .tup es => es.still
  | .lst es => es.still
  | .dic _ es => es.still
  | .bin _ a b => a.still && b.still
  | .not_ a => a.still
  | .neg a => a.still
  | .and_ a b => a.still && b.still
  | .or_ a b => a.still && b.still
  | .ife c a b => c.still && a.still && b.still
  | .ix a i => a.still && i.still
  | .dx a i => a.still && i.still
  | .slc a lo hi => a.still && lo.still && hi.still
  | .get d k x => d.still && k.still && x.still
  | .setd _ _ _ => false
  | .pop _ => false
  | .bif _ es => es.still
  | .isi a _ => a.still
  | .comp e _ it c => e.still && it.still && c.still
  | .call _ es => es.still
  | .mv _ => false
  | .dk1 k v => k.still && v.still
  | .meth _ _ _ _ => false
  | .exf a => a.still
  | .rix a b => a.still && b.still
  | .var _ => true
  | .int _ => true
  | .str _ => true
  | .bl _ => true
  | .non => true
  | .glob _ => true
  | .fld _ _ => true
  | .mf => true
  | .asDat _ e => e.still
def Es.still : Es → Bool
  | .nil => true
  | .cons e r => e.still && r.still
def It.still : It → Bool
  | .seq e => e.still
  | .rng1 a => a.still
  | .rng2 a b => a.still && b.still
  | .keys e => e.still
end
/-- the arguments handed over to be changed: a name, or a new dict -/
def Es.muts : Es → List (Option Nat)
  | .nil => []
  | .cons (.mv i) r => some i :: r.muts
  | .cons .mf r => none :: r.muts
  | .cons _ r => r.muts
/-- the way in which each argument is handed over -/
def Es.modes : Es → List Bool
  | .nil => []
  | .cons (.mv _) r => true :: r.modes
  | .cons .mf r => true :: r.modes
  | .cons _ r => false :: r.modes
/-- places looked at, by an argument list -/
def Es.looks : Es → List Pl
  | .nil => []
  | .cons (.var i) r => (i, none) :: r.looks
  | .cons (.fld i f) r => (i, some f) :: r.looks
  | .cons _ r => r.looks

/-- the constants of the program's modules -/
def glD : Nat → Option D
  | 0 => some (.str 0)
  | 1 => some (.tup [.str 1])
  | 2 => some (.tup [.str 2])
  | 3 => some (.tup [.str 6, .str 7, .str 8, .str 9, .str 10, .str 11, .str 12])
  | _ => none

/-! ### places -/
def putN (f : Nat) (v : SV) : List (Nat × SV) → List (Nat × SV)
  | [] => [(f, v)]
  | (g, u) :: r => if g = f then (f, v) :: r else (g, u) :: putN f v r
def getP (ρ : Env) (p : Pl) : Option SV := match p.2 with
  | none => ρ[p.1]?
  | some f => match ρ[p.1]? with
    | some (.ob _ fs) => fs.lookup f
    | _ => none
def setP (ρ : Env) (p : Pl) (sv : SV) : Env := match p.2 with
  | none => ρ.set p.1 sv
  | some f => match ρ[p.1]? with
    | some (.ob c fs) => ρ.set p.1 (.ob c (putN f sv fs))
    | _ => ρ
def SV.own : SV → Bool
  | .ol _ => true
  | .od _ => true
  | .ob _ _ => true
  | _ => false
def isOdV : Option SV → Bool
  | some (.od _) => true
  | _ => false
def isOlV : Option SV → Bool
  | some (.ol _) => true
  | _ => false
def isOwn (ρ : Env) (p : Pl) : Bool := match getP ρ p with
  | some sv => sv.own
  | none => false
/-- a place's value; b: it may be an own list or dict, looked at in place -/
def rd (b : Bool) (ρ : Env) (p : Pl) : Option D := match getP ρ p with
  | some (.dat d) => some d
  | some (.ol xs) => if b then some (.lst xs) else none
  | some (.od kvs) => if b then some (.dic kvs) else none
  | _ => none
/-- a new list or dict becomes the def's own -/
def svOf : D → SV
  | .lst xs => .ol xs
  | .dic kvs => .od kvs
  | _ => .dead
/-- an own list or dict as data -/
def mvD : Option SV → Option D
  | some (.ol xs) => some (.lst xs)
  | some (.od kvs) => some (.dic kvs)
  | _ => none
def ownV (ρ : Env) (i : Nat) : Option SV := match ρ[i]? with
  | some (.ol xs) => some (.ol xs)
  | some (.od kvs) => some (.od kvs)
  | some (.ob c fs) => some (.ob c fs)
  | _ => none
/-- what was changed is put back -/
def putBack : List (Option Nat) → List SV → Env → Option Env
  | [], [], ρ => some ρ
  | some i :: ms, v :: us, ρ => putBack ms us (ρ.set i v)
  | none :: ms, _ :: us, ρ => putBack ms us ρ
  | _, _, _ => none

def SV.flat1 : SV → Bool
  | .dat d => d.flatT
  | .ol ds => D.flatTAll ds
  | .od kvs => kvs.all fun kv => D.flatT kv.2
  | _ => false
def SV.flatE : SV → Bool
  | .ol ds => D.flatTAll ds
  | .od kvs => kvs.all fun kv => D.flatT kv.2
  | .ob _ fs => fs.all fun q => q.2.flat1
  | _ => false
def isiD (a : D) (t : Ty) : Option Bool := match t, a with
  | .int, .int _ => some true
  | .int, .bl _ => some true
  | .int, .non => some false
  | .int, .str _ => some false
  | .int, .tup _ => some false
  | .int, .lst _ => some false
  | .int, .dic _ => some false
  | .bool, .bl _ => some true
  | .bool, .int _ => some false
  | .bool, .non => some false
  | .bool, .str _ => some false
  | .bool, .tup _ => some false
  | .bool, .lst _ => some false
  | .bool, .dic _ => some false
  | .str, .str _ => some true
  | .str, .bl _ => some false
  | .str, .int _ => some false
  | .str, .non => some false
  | .str, .tup _ => some false
  | .str, .lst _ => some false
  | .str, .dic _ => some false
  | .tuple, .tup _ => some true
  | .tuple, .bl _ => some false
  | .tuple, .int _ => some false
  | .tuple, .non => some false
  | .tuple, .str _ => some false
  | .tuple, .lst _ => some false
  | .tuple, .dic _ => some false
  | .dict, .dic _ => some true
  | .dict, .bl _ => some false
  | .dict, .int _ => some false
  | .dict, .non => some false
  | .dict, .str _ => some false
  | .dict, .lst _ => some false
  | .dict, .tup _ => some false
  | .exc cs, .exc c _ => some (cs.any (excSub c))
  | .exc _, .non => some false
  | _, _ => none

def killV (ρ : Env) : List Nat → Env
  | [] => ρ
  | v :: vs => (killV ρ vs).set v .dead
/-- the slots vs as they were -/
def backV (old ρ : Env) : List Nat → Env
  | [] => ρ
  | v :: vs => (backV old ρ vs).set v (old.getD v .dead)
def bindAll : List Nat → List D → Env → Option Env
  | [], [], ρ => some ρ
  | i :: is, d :: ds, ρ => if i < ρ.length then bindAll is ds (ρ.set i (.dat d)) else none
  | _, _, _ => none
/-- an item goes to its names -/
def bindT : List Nat → D → Env → Option Env
  | [i], d, ρ => bindAll [i] [d] ρ
  | i :: j :: is, .tup ds, ρ => bindAll (i :: j :: is) ds ρ
  | _, _, _ => none
/-- a comprehension's turns -/
def compK (f : D → Env → (Option D → Env → T) → T) : List D → Env → (List D → Env → T) → T
  | [], ρ, k => k [] ρ
  | d :: ds, ρ, k => f d ρ fun o ρ1 => compK f ds ρ1 fun xs ρ2 => k (o.toList ++ xs) ρ2

def dispD (ks : List Nat) (ds : List D) : Option D := if ks.length = ds.length ∧ ks.length ≤ 15 then some (.dic (mergeD [] ((ks.map fun s => (Sum.inr s : Ky)).zip ds))) else none
def shortO {α : Type} (n : Nat) (a : α) : Option α := if n ≤ lim then some a else none
def negD : D → Option D
  | .int i => some (.int (-i))
  | _ => none
def ixND : D → D → Option D
  | .dic _, _ => none
  | a, i => ixD a i
def ixDD : D → D → Option D
  | .dic kvs, .int i => getK kvs (.inl i)
  | .dic kvs, .str s => getK kvs (.inr s)
  | _, _ => none
/-- a slice's end, none where none is written -/
def partE (m : E) (d : D) : Option (Option Int) := match m, d with
  | .non, _ => some none
  | _, .int i => some (some i)
  | _, _ => none
def getD2 (d k x : D) : Option D := match d, keyOf k with
  | .dic kvs, some k => some ((getK kvs k).getD x)
  | _, _ => none
def seqD : D → Option (List D)
  | .tup xs => some xs
  | .lst xs => some xs
  | _ => none
def rng1D : D → Option (List D)
  | .int j => rangeD 0 j
  | _ => none
def rng2D : D → D → Option (List D)
  | .int i, .int j => rangeD i j
  | _, _ => none
def keysD : D → Option (List D)
  | .dic kvs => some (kvs.map fun kv => keyD kv.1)
  | _ => none
def dk1D (k v : D) : Option D := (keyOf k).map fun k => .dic [(k, v)]
def exfD : D → Option D
  | .exc 3 [d] => some d
  | _ => none
/-- the place of a word, from the end -/
def rixL (s : Nat) : List D → Option Nat
  | [] => none
  | .str t :: r => if t = s then some 0 else (rixL s r).map (· + 1)
  | _ => none
def rixD : D → D → Option D
  | .lst xs, .str s => (rixL s xs.reverse).map fun n => .int n
  | _, _ => none
/-- an own dict as data, while it is walked -/
def datV (ρ : Env) (i : Nat) : Option Env := match ρ[i]? with
  | some (.od kvs) => some (ρ.set i (.dat (.dic kvs)))
  | some (.dat (.dic _)) => some ρ
  | _ => none
/-- a list of numbers, words and the like -/
def flatL : D → Bool
  | .lst xs => xs.all D.scalar
  | _ => false
def isObV (c : Nat) : Option SV → Bool
  | some (.ob c' _) => c == c'
  | _ => false
/-- setdefault on what a place holds: the value, what it holds then -/
def setdD (sv : Option SV) (k x : D) : Option (D × SV) := match sv, keyOf k with
  | some (.od kvs), some k => if kvs.length < lim then (match getK kvs k with
    | some v => some (v, .od kvs)
    | none => some (x, .od (setK kvs k x))) else none
  | _, _ => none
def popD : Option SV → Option (D × SV)
  | some (.ol xs) => xs.getLast?.map fun d => (d, .ol xs.dropLast)
  | _ => none
/-- x is an own thing, looked at in place, that t changes -/
def hitB (ρ : Env) (x : E) (t : Nat → Bool) : Bool := match x.place with
  | some p => isOwn ρ p && t p.1
  | none => false

/-- an own thing, looked at in place -/
def ownE (ρ : Env) (x : E) : Bool := match x.place with
  | some p => isOwn ρ p
  | none => false
mutual
/-- b: an own list or dict may be looked at in place; x: errors may leave -/
def evK (x b : Bool) : E → Env → (D → Env → T) → T
  | .var i, ρ, k => ofK (rd b ρ (i, none)) ρ k
  | .int i, ρ, k => k (.int i) ρ
  | .str s, ρ, k => k (.str s) ρ
  | .bl c, ρ, k => k (.bl c) ρ
  | .non, ρ, k => k .non ρ
  | .glob g, ρ, k => ofK (glD g) ρ k
  | .fld i f, ρ, k => ofK (rd b ρ (i, some f)) ρ k
  | .tup es, ρ, k => evsK x es ρ fun ds ρ1 => ofK (shortO ds.length (.tup ds)) ρ1 k
  | .lst es, ρ, k => evsK x es ρ fun ds ρ1 => ofK (shortO ds.length (.lst ds)) ρ1 k
  | .dic ks es, ρ, k => evsK x es ρ fun ds ρ1 => ofK (dispD ks ds) ρ1 k
  | .bin o a c, ρ, k => evK x true a ρ fun da ρ1 => T.un (hitB ρ1 a c.tch) fun _ => evK x true c ρ1 fun dc ρ2 => ofK (opD o da dc) ρ2 k
  | .not_ a, ρ, k => evK x true a ρ fun d ρ1 => ofK ((truth d).map fun c => D.bl !c) ρ1 k
  | .neg a, ρ, k => evK x true a ρ fun d ρ1 => ofK (negD d) ρ1 k
  | .and_ a c, ρ, k => evK x false a ρ fun d ρ1 => T.tri (truth d) (fun _ => evK x false c ρ1 k) (fun _ => k d ρ1)
  | .or_ a c, ρ, k => evK x false a ρ fun d ρ1 => T.tri (truth d) (fun _ => k d ρ1) (fun _ => evK x false c ρ1 k)
  | .ife c a e, ρ, k => evK x true c ρ fun d ρ1 => T.tri (truth d) (fun _ => evK x false a ρ1 k) (fun _ => evK x false e ρ1 k)
  | .ix a i, ρ, k => evK x true a ρ fun da ρ1 => T.un (hitB ρ1 a i.tch) fun _ => evK x true i ρ1 fun di ρ2 => ofK (ixND da di) ρ2 k
  | .dx a i, ρ, k => evK x true a ρ fun da ρ1 => T.un (hitB ρ1 a i.tch) fun _ => evK x true i ρ1 fun di ρ2 => ofK (ixDD da di) ρ2 k
  | .slc a lo hi, ρ, k => evK x true a ρ fun da ρ1 => T.un (hitB ρ1 a fun j => lo.tch j || hi.tch j) fun _ => evK x false lo ρ1 fun dl ρ2 => T.opt (partE lo dl) fun ol => evK x false hi ρ2 fun dh ρ3 => T.opt (partE hi dh) fun oh => ofK (slcD da ol oh) ρ3 k
  | .get d ke y, ρ, k => evK x true d ρ fun dd ρ1 => T.un (hitB ρ1 d fun j => ke.tch j || y.tch j) fun _ => T.un (!dd.isDic) fun _ => evK x false ke ρ1 fun dk ρ2 => evK x false y ρ2 fun dy ρ3 => ofK (getD2 dd dk dy) ρ3 k
  | .setd p ke y, ρ, k => T.un (!isOdV (getP ρ p)) fun _ => evK x false ke ρ fun dk ρ1 => evK x false y ρ1 fun dy ρ2 => .opt (setdD (getP ρ2 p) dk dy) fun r => k r.1 (setP ρ2 p r.2)
  | .pop p, ρ, k => .opt (popD (getP ρ p)) fun r => k r.1 (setP ρ p r.2)
  | .bif f es, ρ, k => evbK x es ρ fun ds ρ1 => ofK (bifD f ds) ρ1 k
  | .isi a t, ρ, k => evK x true a ρ fun d ρ1 => ofK ((isiD d t).map .bl) ρ1 k
  | .comp e tg it c, ρ, k => evIK x it ρ fun ds ρ1 => T.un (tg.any fun i => isOwn ρ1 (i, none)) fun _ => T.un (decide (lim < ds.length)) fun _ =>
      compK (fun d ρ2 k2 => T.opt (bindT tg d (killV ρ2 tg)) fun ρ3 => evK false true c ρ3 fun dc ρ4 => T.tri (truth dc)
          (fun _ => evK false false e ρ4 fun y ρ5 => k2 (some y) ρ5) (fun _ => k2 none ρ4)) ds ρ1 fun xs ρ2 => k (.lst xs) (backV ρ1 ρ2 tg)
  | .call f es, ρ, k => evaK x es ρ fun as fl ρ1 => T.call f as fun rf => match rf with
    | .ok r us => T.un (fl && !(r.flatT && us.all SV.flatE)) fun _ => T.opt (putBack es.muts us ρ1) fun ρ2 => k r ρ2
    | .exc c pl => match x with
      | true => .exc c pl
      | false => .stuck
    | .stuck => .stuck
  | .mv _, _, _ => .stuck
  | .mf, ρ, k => k (.dic []) ρ
  | .dk1 ke v, ρ, k => evK x false ke ρ fun dk ρ1 => evK x false v ρ1 fun dv ρ2 => ofK (dk1D dk dv) ρ2 k
  | .meth c f i es, ρ, k => T.un (!isObV c ρ[i]? || es.looks.any (fun p => p.1 == i) || !es.muts.isEmpty) fun _ => evaK x es ρ fun as fl ρ1 => T.un (!isObV c ρ1[i]?) fun _ => .opt (ownV ρ1 i) fun sv => T.call f (sv :: as) fun rf => match rf with
    | .ok r us => T.un (fl && !(r.flatT && us.all SV.flatE)) fun _ => T.opt (putBack [some i] us ρ1) fun ρ2 => k r ρ2
    | .exc c pl => match x with
      | true => .exc c pl
      | false => .stuck
    | .stuck => .stuck
  | .exf a, ρ, k => evK x false a ρ fun d ρ1 => ofK (exfD d) ρ1 k
  | .rix a c, ρ, k => evK x true a ρ fun da ρ1 => T.un (hitB ρ1 a c.tch) fun _ => evK x false c ρ1 fun dc ρ2 => ofK (rixD da dc) ρ2 k
  | .asDat i e, ρ, k => T.un (!e.still) fun _ => .opt (datV ρ i) fun ρ1 => .sub (evK false false e ρ1 fun d ρ2 => .ok d ρ2) fun rf => match rf with
    | .ok d _ => T.un (!flatL d) fun _ => k d ρ
    | _ => .stuck
/-- data that stays, one by one -/
def evsK (x : Bool) : Es → Env → (List D → Env → T) → T
  | .nil, ρ, k => k [] ρ
  | .cons e r, ρ, k => evK x false e ρ fun d ρ1 => evsK x r ρ1 fun ds ρ2 => k (d :: ds) ρ2
/-- a built-in's arguments -/
def evbK (x : Bool) : Es → Env → (List D → Env → T) → T
  | .nil, ρ, k => k [] ρ
  | .cons e r, ρ, k => evK x true e ρ fun d ρ1 => T.un (hitB ρ1 e r.tch) fun _ => evbK x r ρ1 fun ds ρ2 => k (d :: ds) ρ2
/-- a def's arguments -/
def evaK (x : Bool) : Es → Env → (List SV → Bool → Env → T) → T
  | .nil, ρ, k => k [] false ρ
  | .cons (.mv i) r, ρ, k => T.un (r.tch i || r.looks.any fun p => p.1 == i) fun _ => .opt (ownV ρ i) fun v => evaK x r ρ fun vs fl ρ2 => k (v :: vs) fl ρ2
  | .cons .mf r, ρ, k => evaK x r ρ fun vs fl ρ2 => k (.od [] :: vs) fl ρ2
  | .cons e r, ρ, k => evK x true e ρ fun d ρ1 => T.un (hitB ρ1 e r.tch) fun _ => evaK x r ρ1 fun vs fl ρ2 => k (.dat d :: vs) (ownE ρ1 e || fl) ρ2
/-- the items walked -/
def evIK (x : Bool) : It → Env → (List D → Env → T) → T
  | .seq e, ρ, k => evK x false e ρ fun d ρ1 => ofK (seqD d) ρ1 k
  | .rng1 a, ρ, k => evK x false a ρ fun d ρ1 => ofK (rng1D d) ρ1 k
  | .rng2 a c, ρ, k => evK x false a ρ fun d ρ1 => evK x false c ρ1 fun d2 ρ2 => ofK (rng2D d d2) ρ2 k
  | .keys e, ρ, k => evK x false e ρ fun d ρ1 => ofK (keysD d) ρ1 k
end

/-! ## names of the texts -/
def excNm : Nat → Str
  | 0 => "KindError"
  | 1 => "NoJoin"
  | 2 => "NoKind"
  | 3 => "NoName"
  | _ => "Stuck"
def clsNm : Nat → Str
  | 0 => "Finder"
  | 1 => "Machine"
  | _ => "Writer"
def fldNm : Nat → Str
  | 0 => "many"
  | 1 => "told"
  | 2 => "code"
  | 3 => "most"
  | 4 => "at"
  | 5 => "pile"
  | 6 => "held"
  | 7 => "froms"
  | 8 => "calls"
  | 9 => "0"
  | _ => "1"
/-! ## statements -/
/-- what an except clause does: nothing that is come to, the error is kept under a name, a name is given a truth, another error is raised -/
inductive Hd where
  | no | keep (je j : Nat) | set (j : Nat) (b : Bool) | raise (c : Nat)
/-- what __init__ gives a field: a parameter, a number, a new list or dict of the instance's own, an empty list that stays -/
inductive Ini where
  | par (k : Nat) | int (z : Int) | ol | od | lst
/-- the classes' fields: 0 Finder, 1 Machine, 2 Writer, 3 no class but a list [0, []] -/
def inits : Nat → List (Nat × Ini)
  | 0 => [(0, .int 0), (1, .od)]
  | 1 => [(2, .par 0), (3, .par 1), (4, .int 0), (5, .ol), (6, .lst), (7, .ol), (8, .int 0)]
  | 2 => [(2, .ol)]
  | 3 => [(9, .int 0), (10, .ol)]
  | _ => []
/-- how many parameters -/
def arity : Nat → Nat
  | 1 => 2
  | _ => 0
def iniV (ds : List D) : Ini → Option SV
  | .par k => ds[k]?.map .dat
  | .int z => some (.dat (.int z))
  | .ol => some (.ol [])
  | .od => some (.od [])
  | .lst => some (.dat (.lst []))
def iniFs (ds : List D) : List (Nat × Ini) → Option (List (Nat × SV))
  | [] => some []
  | q :: r => match iniV ds q.2, iniFs ds r with
    | some v, some l => some ((q.1, v) :: l)
    | _, _ => none
def newV (c : Nat) (ds : List D) : Option SV := if ds.length = arity c then (iniFs ds (inits c)).map (.ob c) else none
mutual
inductive S where
  | asg (i : Nat) (e : E) | asgO (i : Nat) (e : E) | asgT (tg : List Nat) (e : E) | swap (i j : Nat) (a b : E)
  | setF (i f : Nat) (e : E) | setFO (i f : Nat) (e : E)
  | app (p : Pl) (e : E) | extd (p : Pl) (e : E) | setL (p : Pl) (k e : E) | putD (p : Pl) (k e : E)
  | expr (e : E) | ret (e : E) | retO (i : Nat)
  | if_ (c : E) (a b : Ss) | for_ (tg : List Nat) (it : It) (body : Ss) | while_ (c : E) (body : Ss)
  | raise_ (c : Nat) (es : Es)
  | cont | brk | pass
  | forD (tg : List Nat) (i : Nat) (body : Ss)
  | skip | tryE (i : Nat) (e : E) (c : Nat) (hd : Hd) | new (i c : Nat) (es : Es) | retF (i f : Nat) | upd (p : Pl) (e : E) | popT (i f g : Nat) (p : Pl)
inductive Ss where
  | nil | cons (s : S) (r : Ss)
end
/-- forms that make a new list or dict -/
def E.fresh : E → Bool
  | .lst _ => true
  | .dic _ _ => true
  | .mf => true
  | .comp _ _ _ _ => true
  | .bif .list _ => true
  | .bif .dict _ => true
  | .bif .lrange _ => true
  | .bin .ladd _ _ => true
  | _ => false
def storeS (ρ : Env) (i : Nat) (sv : SV) : Option Env := if i < ρ.length then some (ρ.set i sv) else none
def storeT (tg : List Nat) (d : D) (ρ : Env) : Option Env := match tg with
  | _ :: _ :: _ => bindT tg d ρ
  | _ => none
def swapS (ρ : Env) (i j : Nat) (a b : D) : Option Env := if i < ρ.length ∧ j < ρ.length ∧ i ≠ j then some ((ρ.set i (.dat a)).set j (.dat b)) else none
/-- a field is stored: never over an own list or dict -/
def storeF (ρ : Env) (i f : Nat) (sv : SV) : Option Env := match ρ[i]? with
  | some (.ob c fs) => (match fs.lookup f with
    | some (.ol _) => none
    | some (.od _) => none
    | some (.ob _ _) => none
    | _ => if fs.length < 900 then some (ρ.set i (.ob c (putN f sv fs))) else none)
  | _ => none
def appS : Option SV → D → Option SV
  | some (.ol xs), d => if xs.length < lim then some (.ol (xs ++ [d])) else none
  | _, _ => none
def extS : Option SV → D → Option SV
  | some (.ol xs), .lst ys => if xs.length + ys.length ≤ lim then some (.ol (xs ++ ys)) else none
  | _, _ => none
def setSL : Option SV → D → D → Option SV
  | some (.ol xs), .int z, d => (ixN xs.length z).map fun j => .ol (xs.set j d)
  | _, _, _ => none
def setSD : Option SV → D → D → Option SV
  | some (.od kvs), k, d => (keyOf k).bind fun k => if kvs.length < lim then some (.od (setK kvs k d)) else none
  | _, _, _ => none
def updS : Option SV → D → Option SV
  | some (.od kvs), .dic more => if kvs.length + more.length ≤ lim then some (.od (mergeD kvs more)) else none
  | _, _ => none
/-- a pair goes to two fields that stay -/
def storeF2 (ρ : Env) (i f g : Nat) : D → Option Env
  | .tup [a, b] => (storeF ρ i f (.dat a)).bind fun ρ1 => storeF ρ1 i g (.dat b)
  | _ => none
/-- where a statement goes on -/
structure Ks where
  nx : Env → T
  rt : D → Env → T
  bk : Env → T
  ct : Env → T
/-- a loop over items -/
def forK (f : D → Env → (Env → T) → (Env → T) → T) : List D → Env → (Env → T) → T
  | [], ρ, k => k ρ
  | d :: ds, ρ, k => f d ρ (fun ρ1 => forK f ds ρ1 k) k
def whileK (c : Env → (Bool → Env → T) → T) (f : Env → (Env → T) → (Env → T) → T) : Nat → Env → (Env → T) → T
  | 0, _, _ => .stuck
  | n + 1, ρ, k => c ρ fun b ρ1 => T.test b fun b => match b with
    | true => f ρ1 (fun ρ2 => whileK c f n ρ2 k) k
    | false => k ρ1

variable (w : Nat)
mutual
def exK : S → Env → Ks → T
  | .asg i e, ρ, K => evK true false e ρ fun d ρ1 => .opt (storeS ρ1 i (.dat d)) fun ρ2 => K.nx ρ2
  | .asgO i e, ρ, K => T.un (!e.fresh) fun _ => evK true false e ρ fun d ρ1 => .opt (storeS ρ1 i (svOf d)) fun ρ2 => K.nx ρ2
  | .asgT tg e, ρ, K => evK true false e ρ fun d ρ1 => .opt (storeT tg d ρ1) fun ρ2 => K.nx ρ2
  | .swap i j a b, ρ, K => evK true false a ρ fun da ρ1 => evK true false b ρ1 fun db ρ2 => .opt (swapS ρ2 i j da db) fun ρ3 => K.nx ρ3
  | .setF i f e, ρ, K => evK true false e ρ fun d ρ1 => .opt (storeF ρ1 i f (.dat d)) fun ρ2 => K.nx ρ2
  | .setFO i f e, ρ, K => T.un (!e.fresh) fun _ => evK true false e ρ fun d ρ1 => .opt (storeF ρ1 i f (svOf d)) fun ρ2 => K.nx ρ2
  | .app p e, ρ, K => T.un (!isOlV (getP ρ p)) fun _ => evK true false e ρ fun d ρ1 => .opt (appS (getP ρ1 p) d) fun sv => K.nx (setP ρ1 p sv)
  | .extd p e, ρ, K => T.un (!isOlV (getP ρ p)) fun _ => evK true false e ρ fun d ρ1 => .opt (extS (getP ρ1 p) d) fun sv => K.nx (setP ρ1 p sv)
  | .setL p k e, ρ, K => evK true false e ρ fun d ρ1 => T.un (!isOlV (getP ρ1 p)) fun _ => evK true false k ρ1 fun dk ρ2 => .opt (setSL (getP ρ2 p) dk d) fun sv => K.nx (setP ρ2 p sv)
  | .putD p k e, ρ, K => evK true false e ρ fun d ρ1 => T.un (!isOdV (getP ρ1 p)) fun _ => evK true false k ρ1 fun dk ρ2 => .opt (setSD (getP ρ2 p) dk d) fun sv => K.nx (setP ρ2 p sv)
  | .expr e, ρ, K => evK true false e ρ fun _ ρ1 => K.nx ρ1
  | .ret e, ρ, K => evK true false e ρ fun d ρ1 => K.rt d ρ1
  | .retO i, ρ, K => .opt (mvD ρ[i]?) fun d => K.rt d (ρ.set i .dead)
  | .if_ c a b, ρ, K => evK true true c ρ fun d ρ1 => T.tri (truth d) (fun _ => exsK a ρ1 K) (fun _ => exsK b ρ1 K)
  | .for_ tg it body, ρ, K => evIK true it ρ fun ds ρ1 => forK (fun d ρ2 n b => .opt (bindT tg d ρ2) fun ρ3 => exsK body ρ3 ⟨n, K.rt, b, n⟩) ds ρ1 K.nx
  | .forD tg i body, ρ, K => .opt ((rd false ρ (i, none)).bind keysD) fun ds => .sub (forK (fun d ρ2 n b => .opt (bindT tg d ρ2) fun ρ3 => exsK body ρ3 ⟨n, fun d ρ4 => .ok (.tup [d]) ρ4, b, n⟩) ds ρ fun ρ4 => .ok .non ρ4) fun rf => match rf with
    | .ok .non ρ2 => K.nx ρ2
    | .ok (.tup [d]) ρ2 => K.rt d ρ2
    | _ => .stuck
  | .while_ c body, ρ, K => whileK (fun ρ1 k => evK true true c ρ1 fun d ρ2 => ofK (truth d) ρ2 k) (fun ρ1 n b => exsK body ρ1 ⟨n, K.rt, b, n⟩) w ρ K.nx
  | .raise_ c es, ρ, _ => evsK true es ρ fun ds _ => .exc c ds
  | .cont, ρ, K => K.ct ρ
  | .brk, ρ, K => K.bk ρ
  | .pass, ρ, K => K.nx ρ
  | .skip, _, _ => .stuck
  | .tryE i e c hd, ρ, K => T.un (!e.still) fun _ => .sub (evK true false e ρ fun d ρ1 => .opt (storeS ρ1 i (.dat d)) fun ρ2 => .ok .non ρ2) fun rf => match rf with
    | .ok _ ρ2 => K.nx ρ2
    | .exc cc pl => T.un (!excSub cc c) fun _ => match hd with
      | .no => .stuck
      | .keep je j => T.un (!(pl.isEmpty && decide (je < ρ.length))) fun _ => .opt (storeS (ρ.set je .dead) j (.dat (.exc cc pl))) fun ρ1 => K.nx ρ1
      | .set j b => .opt (storeS ρ j (.dat (.bl b))) fun ρ1 => K.nx ρ1
      | .raise c2 => .exc c2 []
    | .stuck => .stuck
  | .new i c es, ρ, K => evsK true es ρ fun ds ρ1 => .opt (newV c ds) fun sv => .opt (storeS ρ1 i sv) fun ρ2 => K.nx ρ2
  | .retF i f, ρ, K => .opt (mvD (getP ρ (i, some f))) fun d => K.rt d (ρ.set i .dead)
  | .upd p e, ρ, K => T.un (!isOdV (getP ρ p)) fun _ => evK true false e ρ fun d ρ1 => .opt (updS (getP ρ1 p) d) fun sv => K.nx (setP ρ1 p sv)
  | .popT i f g p, ρ, K => .opt (popD (getP ρ p)) fun r => .opt (storeF2 (setP ρ p r.2) i f g r.1) fun ρ2 => K.nx ρ2
def exsK : Ss → Env → Ks → T
  | .nil, ρ, K => K.nx ρ
  | .cons s r, ρ, K => exK s ρ { K with nx := fun ρ1 => exsK r ρ1 K }
end

/-- a def: the names of its slots (parameters first), which parameters it may change, its body -/
structure Def where
  names : List Str
  modes : List Bool
  body : Ss
def Def.init (d : Def) (as : List SV) : Env := as ++ List.replicate (d.names.length - d.modes.length) .dead
/-- what the changed parameters hold at the end -/
def outsAt (ρ : Env) : List Bool → Nat → Option (List SV)
  | [], _ => some []
  | false :: ms, i => outsAt ρ ms (i + 1)
  | true :: ms, i => match ownV ρ i, outsAt ρ ms (i + 1) with
    | some d, some r => some (d :: r)
    | _, _ => none
def finK (ms : List Bool) : Ks where
  nx := fun ρ => .opt (outsAt ρ ms 0) fun us => .ok .non us
  rt := fun d ρ => .opt (outsAt ρ ms 0) fun us => .ok d us
  bk := fun _ => .stuck
  ct := fun _ => .stuck
/-- each argument handed over in the way that its parameter wants -/
def fitA : List Bool → List SV → Bool
  | [], [] => true
  | true :: ms, v :: vs => v.own && fitA ms vs
  | false :: ms, .dat _ :: vs => fitA ms vs
  | _, _ => false
def fitD (d : Def) (as : List SV) : Bool := fitA d.modes as && decide (d.modes.length ≤ d.names.length)
def runK (d : Def) (as : List SV) : T := T.un (!fitD d as) fun _ => exsK w d.body (d.init as) (finK d.modes)
/-- the calls, n deep -/
def sem (P : Nat → Option Def) (w : Nat) : Nat → Gm
  | 0, _, _ => .stuck
  | n + 1, f, as => match P f with
    | some d => (runK w d as).den (sem P w n)
    | none => .stuck
theorem sem_go {P : Nat → Option Def} {w n f : Nat} {d : Def} {as : List SV} {R : RF} (hP : P f = some d) (h : Goes (sem P w n) (runK w d as) R) : sem P w (n + 1) f as = R := by
  show (match P f with
    | some d => (runK w d as).den (sem P w n)
    | none => .stuck) = _
  rw [hP]
  rw [goes_iff] at h
  exact h
end KS

set_option Elab.async false
set_option linter.all false
set_option maxRecDepth 100000
/-! Rep: how data stands in the abstract heap; what stays. -/
namespace KS
open PySem L2

def wd (s : Nat) : Str := words.getD s default
theorem words_nd : words.Nodup := by decide +kernel
theorem wd_inj {a b : Nat} (ha : a < words.length) (hb : b < words.length) (h : wd a = wd b) : a = b := by
  unfold wd at h
  rw [List.getD_eq_getElem?_getD, List.getD_eq_getElem?_getD, List.getElem?_eq_getElem ha, List.getElem?_eq_getElem hb] at h
  exact (List.getElem_inj words_nd).mp h
theorem wd_ok : ∀ s, PyData.strOk (wd s) = true := by
  intro s
  unfold wd
  by_cases h : s < words.length
  · rw [List.getD_eq_getElem?_getD, List.getElem?_eq_getElem h]
    have hh : ∀ x ∈ words, PyData.strOk x = true := by decide +kernel
    exact hh _ (List.getElem_mem h)
  · rw [List.getD_eq_getElem?_getD, List.getElem?_eq_none (by omega)]
    decide +kernel
def kyK : Ky → Key
  | .inl i => .inl i
  | .inr s => .inr (wd s)
def kyOk : Ky → Prop
  | .inl _ => True
  | .inr s => s < words.length
theorem kyK_inj {a b : Ky} (ha : kyOk a) (hb : kyOk b) (h : kyK a = kyK b) : a = b := by
  cases a with
  | inl i => cases b with
    | inl j => injection h with h; rw [h]
    | inr t => cases h
  | inr s => cases b with
    | inl j => cases h
    | inr t => injection h with h; rw [wd_inj ha hb h]

/-- an error object of the class C (its own dict at dx, if it has one) -/
def exHO (C : Addr) (dx : Option Addr) (a : Addr) : HO := .ext fun h => ∃ (oe : Obj) (vs : Array Value), h.get? a = some oe ∧ Zc (.ref C) dx oe ∧ oe.data = .fields vs

/-- the error class of the word stands at C -/
def IsX (K : PySem.W.Frag) (c : Nat) (C : Addr) : Prop := c < 5 ∧ PySem.W.nsIn K mainGlobals (excNm c) = some (some (.ref C))
theorem IsX.inj {K : PySem.W.Frag} {c : Nat} {C D : Addr} (h : IsX K c C) (g : IsX K c D) : C = D := by
  have g := g.2
  rw [h.2] at g
  cases g
  rfl
/-- true: errors have no context (nothing is handled where they are raised) -/
abbrev Ct := Bool

section
variable (K : PySem.W.Frag) (F : Hp)
mutual
def Rep : D → V → Prop
  | .non, v => v = .non
  | .bl b, v => v = .bl b
  | .int i, v => v = .int i
  | .str s, v => s < words.length ∧ v = .str (wd s)
  | .tup ds, v => ∃ a xs, v = .ref a ∧ SqT K F a xs ∧ RepAll ds xs
  | .lst ds, v => ∃ a xs, v = .ref a ∧ F a = some (.lst xs) ∧ RepAll ds xs
  | .dic kvs, v => ∃ a vs, v = .ref a ∧ Rd F a (.dK vs) ∧ RepKV kvs vs
  | .exc c pl, v => ∃ a C dx xs, v = .ref a ∧ F a = some (exHO C dx a) ∧ IsX K c C ∧ RepAll pl xs ∧ ((xs = [] ∧ dx = none) ∨ ∃ x d, xs = [x] ∧ dx = some d ∧ Rd F d (.xd [("name", x)]))
  | .scr ns, v => ∃ a, v = .ref a ∧ SqL K F a (ns.map V.int)
def RepAll : List D → List V → Prop
  | [], vs => vs = []
  | d :: ds, vs => ∃ x xs, vs = x :: xs ∧ Rep d x ∧ RepAll ds xs
def RepKV : List (Ky × D) → List (Key × V) → Prop
  | [], vs => vs = []
  | (k, d) :: r, vs => ∃ x xs, vs = (kyK k, x) :: xs ∧ kyOk k ∧ Rep d x ∧ RepKV r xs
end
end

def plainHO : HO → Prop
  | .lst _ => True
  | .tup _ => True
  | .dK _ => True
  | .xd _ => True
  | _ => False
def stayHO : HO → Prop
  | .lst _ => True
  | .ext _ => True
  | _ => False
/-- what may be read stays so; what is locked may be unlocked -/
structure RdW (F F' : Hp) : Prop where
  rd : ∀ b u, plainHO u → Rd F b u → Rd F' b u
  ls : ∀ b o, stayHO o → F b = some o → F' b = some o
/-- what may be read stays so -/
structure RdLe (F F' : Hp) : Prop where
  rd : ∀ b u, plainHO u → Rd F b u → Rd F' b u
  ls : ∀ b o, stayHO o → F b = some o → F' b = some o
  fz : ∀ b o u, F b = some (.frz o u) → F' b = some (.frz o u)
theorem RdLe.w {F F' : Hp} (e : RdLe F F') : RdW F F' := ⟨e.rd, e.ls⟩
theorem RdLe.refl (F : Hp) : RdLe F F := ⟨fun _ _ _ h => h, fun _ _ _ h => h, fun _ _ _ h => h⟩
theorem RdLe.trans {F F1 F2 : Hp} (a : RdLe F F1) (b : RdLe F1 F2) : RdLe F F2 := ⟨fun c u p h => b.rd c u p (a.rd c u p h), fun c xs p h => b.ls c xs p (a.ls c xs p h), fun c o u h => b.fz c o u (a.fz c o u h)⟩
theorem RdW.seqT {K : PySem.W.Frag} {F F' : Hp} (e : RdW F F') {a : Addr} {xs : List V} (h : SqT K F a xs) : SqT K F' a xs := by
  rcases h with h | h
  · exact .inl (e.rd _ _ trivial h)
  · exact .inr h
theorem RdW.seqL {K : PySem.W.Frag} {F F' : Hp} (e : RdW F F') {a : Addr} {xs : List V} (h : SqL K F a xs) : SqL K F' a xs := by
  rcases h with h | h
  · exact .inl (e.rd _ _ trivial h)
  · exact .inr h
theorem RdLe.seqT {K : PySem.W.Frag} {F F' : Hp} (e : RdLe F F') {a : Addr} {xs : List V} (h : SqT K F a xs) : SqT K F' a xs := e.w.seqT h
theorem RdLe.seqL {K : PySem.W.Frag} {F F' : Hp} (e : RdLe F F') {a : Addr} {xs : List V} (h : SqL K F a xs) : SqL K F' a xs := e.w.seqL h
section
variable {K : PySem.W.Frag} {F F' : Hp}
mutual
theorem Rep.monoW (e : RdW F F') : ∀ (d : D) (v : V), Rep K F d v → Rep K F' d v
  | .non, _, h => by simpa [Rep] using h
  | .bl _, _, h => by simpa [Rep] using h
  | .int _, _, h => by simpa [Rep] using h
  | .str _, _, h => by simpa [Rep] using h
  | .tup ds, v, h => by
    rw [Rep] at h ⊢
    obtain ⟨a, xs, e1, e2, e3⟩ := h
    exact ⟨a, xs, e1, e.seqT e2, RepAll.monoW e ds xs e3⟩
  | .lst ds, v, h => by
    rw [Rep] at h ⊢
    obtain ⟨a, xs, e1, e2, e3⟩ := h
    exact ⟨a, xs, e1, e.ls _ _ trivial e2, RepAll.monoW e ds xs e3⟩
  | .dic kvs, v, h => by
    rw [Rep] at h ⊢
    obtain ⟨a, xs, e1, e2, e3⟩ := h
    exact ⟨a, xs, e1, e.rd _ _ trivial e2, RepKV.monoW e kvs xs e3⟩
  | .exc c pl, v, h => by
    rw [Rep] at h ⊢
    obtain ⟨a, C, dx, xs, e1, e2, e3, e4, e5⟩ := h
    refine ⟨a, C, dx, xs, e1, e.ls _ _ trivial e2, e3, RepAll.monoW e pl xs e4, ?_⟩
    rcases e5 with e5 | ⟨x, d, f1, f2, f3⟩
    · exact .inl e5
    · exact .inr ⟨x, d, f1, f2, e.rd _ _ trivial f3⟩
  | .scr ns, v, h => by
    rw [Rep] at h ⊢
    obtain ⟨a, e1, e2⟩ := h
    exact ⟨a, e1, e.seqL e2⟩
theorem RepAll.monoW (e : RdW F F') : ∀ (ds : List D) (vs : List V), RepAll K F ds vs → RepAll K F' ds vs
  | [], _, h => by simpa [RepAll] using h
  | d :: ds, vs, h => by
    rw [RepAll] at h ⊢
    obtain ⟨x, xs, e1, e2, e3⟩ := h
    exact ⟨x, xs, e1, Rep.monoW e d x e2, RepAll.monoW e ds xs e3⟩
theorem RepKV.monoW (e : RdW F F') : ∀ (ds : List (Ky × D)) (vs : List (Key × V)), RepKV K F ds vs → RepKV K F' ds vs
  | [], _, h => by simpa [RepKV] using h
  | (k, d) :: ds, vs, h => by
    rw [RepKV] at h ⊢
    obtain ⟨x, xs, e1, e0, e2, e3⟩ := h
    exact ⟨x, xs, e1, e0, Rep.monoW e d x e2, RepKV.monoW e ds xs e3⟩
end
theorem Rep.mono (e : RdLe F F') (d : D) (v : V) (h : Rep K F d v) : Rep K F' d v := Rep.monoW e.w d v h
theorem RepAll.mono (e : RdLe F F') (ds : List D) (vs : List V) (h : RepAll K F ds vs) : RepAll K F' ds vs := RepAll.monoW e.w ds vs h
theorem RepKV.mono (e : RdLe F F') (ds : List (Ky × D)) (vs : List (Key × V)) (h : RepKV K F ds vs) : RepKV K F' ds vs := RepKV.monoW e.w ds vs h
/-! ### lists of data -/
theorem RepAll.nil : RepAll K F [] [] := by rw [RepAll]
theorem RepAll.cons {d : D} {x : V} {ds : List D} {xs : List V} (h : Rep K F d x) (t : RepAll K F ds xs) : RepAll K F (d :: ds) (x :: xs) := by
  rw [RepAll]; exact ⟨x, xs, rfl, h, t⟩
theorem RepAll.length : ∀ {ds : List D} {xs : List V}, RepAll K F ds xs → ds.length = xs.length
  | [], _, h => by rw [RepAll] at h; rw [h]; rfl
  | d :: ds, _, h => by
    rw [RepAll] at h
    obtain ⟨x, xs, rfl, _, t⟩ := h
    rw [List.length_cons, List.length_cons, RepAll.length t]
theorem RepAll.get : ∀ {ds : List D} {xs : List V} {i : Nat} {d : D}, RepAll K F ds xs → ds[i]? = some d → ∃ x, xs[i]? = some x ∧ Rep K F d x
  | [], _, _, _, _, e => by simp at e
  | d :: ds, _, 0, _, h, e => by
    rw [RepAll] at h
    obtain ⟨x, xs, rfl, r, t⟩ := h
    simp at e; subst e
    exact ⟨x, rfl, r⟩
  | d :: ds, _, i + 1, d', h, e => by
    rw [RepAll] at h
    obtain ⟨x, xs, rfl, r, t⟩ := h
    obtain ⟨y, e1, e2⟩ := RepAll.get (i := i) (d := d') t (by simpa using e)
    exact ⟨y, by simpa using e1, e2⟩
theorem RepAll.append : ∀ {ds es : List D} {xs ys : List V}, RepAll K F ds xs → RepAll K F es ys → RepAll K F (ds ++ es) (xs ++ ys)
  | [], _, _, _, h, g => by rw [RepAll] at h; subst h; exact g
  | d :: ds, _, _, _, h, g => by
    rw [RepAll] at h
    obtain ⟨x, xs, rfl, r, t⟩ := h
    exact .cons r (RepAll.append t g)
theorem RepAll.drop : ∀ {ds : List D} {xs : List V} (n : Nat), RepAll K F ds xs → RepAll K F (ds.drop n) (xs.drop n)
  | _, _, 0, h => h
  | [], _, n + 1, h => by rw [RepAll] at h; subst h; exact .nil
  | d :: ds, _, n + 1, h => by
    rw [RepAll] at h
    obtain ⟨x, xs, rfl, r, t⟩ := h
    exact RepAll.drop n t
theorem RepAll.take : ∀ {ds : List D} {xs : List V} (n : Nat), RepAll K F ds xs → RepAll K F (ds.take n) (xs.take n)
  | _, _, 0, _ => .nil
  | [], _, n + 1, h => by rw [RepAll] at h; subst h; exact .nil
  | d :: ds, _, n + 1, h => by
    rw [RepAll] at h
    obtain ⟨x, xs, rfl, r, t⟩ := h
    exact .cons r (RepAll.take n t)
theorem RepAll.cut {ds : List D} {xs : List V} (h : RepAll K F ds xs) (lo hi : Option Int) : RepAll K F (cutD ds lo hi) (cutV xs lo hi) := by
  unfold cutD cutV
  rw [h.length]
  exact (h.drop _).take _
theorem RepAll.set : ∀ {ds : List D} {xs : List V} (i : Nat) {d : D} {x : V}, RepAll K F ds xs → Rep K F d x → RepAll K F (ds.set i d) (xs.set i x)
  | [], _, _, _, _, h, _ => by rw [RepAll] at h; subst h; exact .nil
  | d :: ds, _, 0, _, _, h, r' => by
    rw [RepAll] at h
    obtain ⟨x, xs, rfl, r, t⟩ := h
    exact .cons r' t
  | d :: ds, _, i + 1, _, _, h, r' => by
    rw [RepAll] at h
    obtain ⟨x, xs, rfl, r, t⟩ := h
    exact .cons r (RepAll.set i t r')
theorem RepAll.dropLast {ds : List D} {xs : List V} (h : RepAll K F ds xs) : RepAll K F ds.dropLast xs.dropLast := by
  rw [List.dropLast_eq_take, List.dropLast_eq_take, h.length]
  exact h.take _
theorem RepAll.rep {ds : List D} {xs : List V} (h : RepAll K F ds xs) : ∀ k : Nat, RepAll K F (List.replicate k ds).flatten (List.replicate k xs).flatten
  | 0 => .nil
  | k + 1 => by
    rw [List.replicate_succ, List.replicate_succ, List.flatten_cons, List.flatten_cons]
    exact h.append (RepAll.rep h k)
theorem RepAll.nil_iff {ds : List D} {xs : List V} (h : RepAll K F ds xs) : xs = [] ↔ ds = [] := by
  have := h.length
  constructor
  · rintro rfl; exact List.eq_nil_of_length_eq_zero (by simpa using this)
  · rintro rfl; exact List.eq_nil_of_length_eq_zero (by simpa using this.symm)
theorem atI_rep {ds : List D} {xs : List V} {i : Int} {d : D} (h : RepAll K F ds xs) (e : atI ds i = some d) : ∃ x, atI xs i = some x ∧ Rep K F d x := by
  unfold atI at e ⊢
  rw [← h.length]
  cases q : ixN ds.length i with
  | none => rw [q] at e; cases e
  | some j =>
    rw [q] at e
    obtain ⟨x, e1, e2⟩ := h.get (i := j) (d := d) e
    exact ⟨x, e1, e2⟩
/-! ### dicts -/
theorem RepKV.nil : RepKV K F [] [] := by rw [RepKV]
theorem RepKV.cons {k : Ky} {d : D} {x : V} {ds : List (Ky × D)} {xs : List (Key × V)} (hk : kyOk k) (h : Rep K F d x) (t : RepKV K F ds xs) : RepKV K F ((k, d) :: ds) ((kyK k, x) :: xs) := by
  rw [RepKV]; exact ⟨x, xs, rfl, hk, h, t⟩
theorem RepKV.length : ∀ {ds : List (Ky × D)} {xs : List (Key × V)}, RepKV K F ds xs → ds.length = xs.length
  | [], _, h => by rw [RepKV] at h; rw [h]; rfl
  | (k, d) :: ds, _, h => by
    rw [RepKV] at h
    obtain ⟨x, xs, rfl, _, _, t⟩ := h
    rw [List.length_cons, List.length_cons, RepKV.length t]
theorem key_dec {a b : Ky} (ha : kyOk a) (hb : kyOk b) : decide (kyK a = kyK b) = decide (a = b) := by
  by_cases h : a = b
  · rw [h]; simp
  · rw [decide_eq_false h, decide_eq_false fun q => h (kyK_inj ha hb q)]
theorem RepKV.get : ∀ {ds : List (Ky × D)} {xs : List (Key × V)} {k : Ky}, RepKV K F ds xs → kyOk k → (getK ds k = none ∧ valV xs (kyK k) = none) ∨ ∃ d x, getK ds k = some d ∧ valV xs (kyK k) = some x ∧ Rep K F d x
  | [], _, k, h, _ => by rw [RepKV] at h; subst h; exact .inl ⟨rfl, rfl⟩
  | (j, d) :: ds, _, k, h, hk => by
    rw [RepKV] at h
    obtain ⟨x, xs, rfl, hj, r, t⟩ := h
    have ih := RepKV.get (k := k) t hk
    by_cases q : j = k
    · right
      refine ⟨d, x, ?_, ?_, r⟩
      · unfold getK; rw [List.find?_cons_of_pos (by simp [q])]; rfl
      · exact valV_pos (by rw [q])
    · have q' : ¬ kyK j = kyK k := fun z => q (kyK_inj hj hk z)
      have e1 : getK ((j, d) :: ds) k = getK ds k := by unfold getK; rw [List.find?_cons_of_neg (by simp [q])]
      rw [e1, valV_neg (p := (kyK j, x)) q']
      exact ih
theorem RepKV.any : ∀ {ds : List (Ky × D)} {xs : List (Key × V)} {k : Ky}, RepKV K F ds xs → kyOk k → (ds.any fun kv => decide (kv.1 = k)) = xs.any fun kv => decide (kv.1 = kyK k)
  | [], _, k, h, _ => by rw [RepKV] at h; subst h; rfl
  | (j, d) :: ds, _, k, h, hk => by
    rw [RepKV] at h
    obtain ⟨x, xs, rfl, hj, r, t⟩ := h
    rw [List.any_cons, List.any_cons, RepKV.any t hk]
    show (decide (j = k) || _) = (decide (kyK j = kyK k) || _)
    rw [key_dec hj hk]
theorem RepKV.repl : ∀ {ds : List (Ky × D)} {xs : List (Key × V)} {k : Ky} {d : D} {x : V}, RepKV K F ds xs → kyOk k → Rep K F d x →
    RepKV K F (ds.map fun kv => if kv.1 = k then (kv.1, d) else kv) (xs.map fun kv => if kv.1 = kyK k then (kv.1, x) else kv)
  | [], _, k, _, _, h, _, _ => by rw [RepKV] at h; subst h; exact .nil
  | (j, e) :: ds, _, k, d, x, h, hk, r' => by
    rw [RepKV] at h
    obtain ⟨y, xs, rfl, hj, r, t⟩ := h
    have ih := RepKV.repl t hk r'
    rw [List.map_cons, List.map_cons]
    by_cases q : j = k
    · subst q
      simp only [if_true]
      exact .cons hj r' ih
    · have q' : ¬ kyK j = kyK k := fun z => q (kyK_inj hj hk z)
      simp only [if_neg q, if_neg q']
      exact .cons hj r ih
theorem RepKV.append : ∀ {ds es : List (Ky × D)} {xs ys : List (Key × V)}, RepKV K F ds xs → RepKV K F es ys → RepKV K F (ds ++ es) (xs ++ ys)
  | [], _, _, _, h, g => by rw [RepKV] at h; subst h; exact g
  | (k, d) :: ds, _, _, _, h, g => by
    rw [RepKV] at h
    obtain ⟨x, xs, rfl, hk, r, t⟩ := h
    exact .cons hk r (RepKV.append t g)
theorem RepKV.put {ds : List (Ky × D)} {xs : List (Key × V)} {k : Ky} {d : D} {x : V} (h : RepKV K F ds xs) (hk : kyOk k) (r : Rep K F d x) : RepKV K F (setK ds k d) (putK xs (kyK k) x) := by
  unfold setK putK
  rw [h.any hk]
  split
  · exact h.repl hk r
  · exact h.append (.cons hk r .nil)
theorem RepKV.merge : ∀ {more : List (Ky × D)} {ms : List (Key × V)} {ds : List (Ky × D)} {xs : List (Key × V)}, RepKV K F more ms → RepKV K F ds xs → RepKV K F (mergeD ds more) (mergeK xs ms)
  | [], _, _, _, h, g => by rw [RepKV] at h; subst h; exact g
  | (k, d) :: more, _, _, _, h, g => by
    rw [RepKV] at h
    obtain ⟨x, ms, rfl, hk, r, t⟩ := h
    unfold mergeD mergeK
    rw [List.foldl_cons, List.foldl_cons]
    exact RepKV.merge t (g.put hk r)
theorem RepKV.keys : ∀ {ds : List (Ky × D)} {xs : List (Key × V)}, RepKV K F ds xs → RepAll K F (ds.map fun kv => keyD kv.1) (xs.map fun kv => kV kv.1)
  | [], _, h => by rw [RepKV] at h; subst h; exact .nil
  | (k, d) :: ds, _, h => by
    rw [RepKV] at h
    obtain ⟨x, xs, rfl, hk, r, t⟩ := h
    refine .cons ?_ (RepKV.keys t)
    cases k with
    | inl i => exact (by show Rep K F (.int i) _; rw [Rep]; rfl)
    | inr s => exact (by show Rep K F (.str s) _; rw [Rep]; exact ⟨hk, rfl⟩)
theorem key_rep {d : D} {v : V} {k : Ky} (h : Rep K F d v) (e : keyOf d = some k) : v = kV (kyK k) ∧ kyOk k := by
  cases d with
  | int i => rw [Rep] at h; cases e; exact ⟨h, trivial⟩
  | str s => rw [Rep] at h; cases e; exact ⟨h.2, h.1⟩
  | _ => cases e
end
end KS

set_option Elab.async false
set_option linter.all false
set_option maxRecDepth 100000
/-! Ops: what operators, subscripts, slices, built-in functions tell, by data. -/
namespace KS
open PySem L2

/-! ### whose a thing is -/
inductive Lb where
  | loc (i j : Nat) | far
abbrev Lab := Addr → Option Lb
/-- the heap without what is somebody's own -/
def FH (H : Hp) (lab : Lab) : Hp := fun b => match lab b with
  | none => H b
  | some _ => none
theorem FH_eq {H : Hp} {lab : Lab} {b : Addr} {o : HO} (h : FH H lab b = some o) : H b = some o ∧ lab b = none := by
  unfold FH at h
  cases e : lab b with
  | none => rw [e] at h; exact ⟨h, rfl⟩
  | some l => rw [e] at h; cases h
theorem FH_of {H : Hp} {lab : Lab} {b : Addr} (h : lab b = none) : FH H lab b = H b := by unfold FH; rw [h]
theorem FH_le {H : Hp} {lab : Lab} : RdLe (FH H lab) H := ⟨fun b u _ h => by
  rcases h with h | ⟨o, h⟩
  · exact .inl (FH_eq h).1
  · exact .inr ⟨o, (FH_eq h).1⟩, fun b o _ h => (FH_eq h).1, fun b o u h => (FH_eq h).1⟩
/-- own things are tracked -/
def LabOk (lab : Lab) (H : Hp) : Prop := ∀ a l, lab a = some l → H a ≠ none

/-- what stood stays: the frozen, own things of names that aren't in t, and what is far, are as they were -/
structure Stp (t : Nat → Bool) (lab : Lab) (H H' : Hp) : Prop where
  fro : ∀ a, lab a = none → H a ≠ none → H' a = H a
  keep : ∀ a i j, lab a = some (.loc i j) → t i = false → H' a = H a
  far : ∀ a, lab a = some .far → H' a = H a
  mono : ∀ a, H a ≠ none → H' a ≠ none
theorem Stp.rd {t : Nat → Bool} {lab : Lab} {H H' : Hp} (s : Stp t lab H H') : RdLe (FH H lab) (FH H' lab) := by
  have e : ∀ b, FH H lab b ≠ none → FH H' lab b = FH H lab b := fun b n => by
    cases q : lab b with
    | none =>
      rw [FH_of q] at n ⊢
      rw [FH_of q]
      exact s.fro b q n
    | some l => exact (n (by unfold FH; rw [q])).elim
  refine ⟨fun b u _ r => ?_, fun b xs _ r => ?_, fun b o u r => ?_⟩
  · unfold Rd
    have n : FH H lab b ≠ none := by rcases r with r | ⟨o, r⟩ <;> (rw [r]; exact fun z => nomatch z)
    rw [e b n]
    exact r
  · rw [e b (by rw [r]; exact fun z => nomatch z)]; exact r
  · rw [e b (by rw [r]; exact fun z => nomatch z)]; exact r
theorem Stp.refl (t : Nat → Bool) (lab : Lab) (H : Hp) : Stp t lab H H := ⟨fun _ _ _ => rfl, fun _ _ _ _ _ => rfl, fun _ _ => rfl, fun _ h => h⟩
theorem Stp.trans {t : Nat → Bool} {lab : Lab} {H H1 H2 : Hp} (a : Stp t lab H H1) (b : Stp t lab H1 H2) : Stp t lab H H2 :=
  ⟨fun c e n => (b.fro c e (a.mono c n)).trans (a.fro c e n), fun c i j e n => (b.keep c i j e n).trans (a.keep c i j e n), fun c e => (b.far c e).trans (a.far c e), fun c h => b.mono c (a.mono c h)⟩
theorem Stp.imp {t t' : Nat → Bool} {lab : Lab} {H H1 : Hp} (a : Stp t lab H H1) (h : ∀ i, t i = true → t' i = true) : Stp t' lab H H1 :=
  ⟨a.fro, fun c i j e n => a.keep c i j e (by cases q : t i with | false => rfl | true => rw [h i q] at n; cases n), a.far, a.mono⟩
theorem Stp.lab {t : Nat → Bool} {lab : Lab} {H H1 : Hp} (a : Stp t lab H H1) (ok : LabOk lab H) : LabOk lab H1 := fun c l e => a.mono c (ok c l e)
/-- a new thing -/
theorem Stp.new {t : Nat → Bool} {lab : Lab} {H : Hp} {p : Addr} {o : HO} (ok : LabOk lab H) (h : H p = none) : Stp t lab H (upd H p o) := by
  have np : ∀ a, H a ≠ none → a ≠ p := fun a ha e => by rw [e] at ha; exact ha h
  exact ⟨fun a _ n => upd_ne (np a n), fun a i j e _ => upd_ne (np a (ok a _ e)), fun a e => upd_ne (np a (ok a _ e)), fun a ha => by rw [upd_ne (np a ha)]; exact ha⟩
theorem FH_new {lab : Lab} {H : Hp} {p : Addr} {o : HO} (ok : LabOk lab H) (h : H p = none) : FH (upd H p o) lab p = some o := by
  have lp : lab p = none := by
    cases e : lab p with
    | none => rfl
    | some l => exact (ok p l e h).elim
  rw [FH_of lp]; exact upd_same

/-- as Rep, the list or dict itself read in H, its things in F -/
def RepT (K : PySem.W.Frag) (H F : Hp) : D → V → Prop
  | .tup ds, v => ∃ a xs, v = .ref a ∧ SqT K H a xs ∧ RepAll K F ds xs
  | .lst ds, v => ∃ a xs, v = .ref a ∧ H a = some (.lst xs) ∧ RepAll K F ds xs
  | .dic kvs, v => ∃ a vs, v = .ref a ∧ Rd H a (.dK vs) ∧ RepKV K F kvs vs
  | .scr ns, v => ∃ a, v = .ref a ∧ SqL K H a (ns.map V.int)
  | d, v => Rep K F d v
theorem Rep.top {K : PySem.W.Frag} {H F : Hp} (e : RdLe F H) {d : D} {v : V} (h : Rep K F d v) : RepT K H F d v := by
  cases d with
  | tup ds => rw [Rep] at h; obtain ⟨a, xs, e1, e2, e3⟩ := h; exact ⟨a, xs, e1, e.seqT e2, e3⟩
  | lst ds => rw [Rep] at h; obtain ⟨a, xs, e1, e2, e3⟩ := h; exact ⟨a, xs, e1, e.ls _ _ trivial e2, e3⟩
  | dic ds => rw [Rep] at h; obtain ⟨a, xs, e1, e2, e3⟩ := h; exact ⟨a, xs, e1, e.rd _ _ trivial e2, e3⟩
  | scr ds => rw [Rep] at h; obtain ⟨a, e1, e2⟩ := h; exact ⟨a, e1, e.seqL e2⟩
  | _ => exact h

theorem RepT.int {K : PySem.W.Frag} {H F : Hp} {i : Int} {v : V} (h : RepT K H F (.int i) v) : v = .int i := by have h : Rep K F (.int i) v := h; rw [Rep] at h; exact h
theorem RepT.bl {K : PySem.W.Frag} {H F : Hp} {i : Bool} {v : V} (h : RepT K H F (.bl i) v) : v = .bl i := by have h : Rep K F (.bl i) v := h; rw [Rep] at h; exact h
theorem RepT.non {K : PySem.W.Frag} {H F : Hp} {v : V} (h : RepT K H F .non v) : v = .non := by have h : Rep K F .non v := h; rw [Rep] at h; exact h
theorem RepT.str {K : PySem.W.Frag} {H F : Hp} {s : Nat} {v : V} (h : RepT K H F (.str s) v) : s < words.length ∧ v = .str (wd s) := by have h : Rep K F (.str s) v := h; rw [Rep] at h; exact h
theorem rep_int {K : PySem.W.Frag} {F : Hp} {i : Int} : Rep K F (.int i) (.int i) := by rw [Rep]
theorem rep_bl {K : PySem.W.Frag} {F : Hp} {i : Bool} : Rep K F (.bl i) (.bl i) := by rw [Rep]
theorem rep_non {K : PySem.W.Frag} {F : Hp} : Rep K F .non .non := by rw [Rep]

/-! ### == -/
section
variable {K : PySem.W.Frag} {H F : Hp}
mutual
theorem Rep.dp (e : RdLe F H) : ∀ (d : D) (v : V), Rep K F d v → D.cmp d = true → Dp K H v d.py
  | .non, _, h, _ => by rw [Rep] at h; subst h; exact .non
  | .bl b, _, h, _ => by rw [Rep] at h; subst h; exact .bl b
  | .int i, _, h, _ => by rw [Rep] at h; subst h; exact .int i
  | .str s, _, h, _ => by rw [Rep] at h; rw [h.2]; exact .str _
  | .tup ds, _, h, c => by
    rw [Rep] at h
    obtain ⟨a, xs, rfl, e2, e3⟩ := h
    rw [D.cmp] at c
    exact .tup (e.seqT e2) (RepAll.dp e ds xs e3 c)
  | .lst ds, _, h, c => by
    rw [Rep] at h
    obtain ⟨a, xs, rfl, e2, e3⟩ := h
    rw [D.cmp] at c
    exact .lst (SqL.of (e.ls _ _ trivial e2)) (RepAll.dp e ds xs e3 c)
  | .dic _, _, _, c => by simp [D.cmp] at c
  | .exc _ _, _, _, c => by simp [D.cmp] at c
  | .scr _, _, _, c => by simp [D.cmp] at c
theorem RepAll.dp (e : RdLe F H) : ∀ (ds : List D) (vs : List V), RepAll K F ds vs → D.cmpAll ds = true → DpAll K H vs (D.pyAll ds)
  | [], _, h, _ => by rw [RepAll] at h; subst h; exact .nil
  | d :: ds, _, h, c => by
    rw [RepAll] at h
    obtain ⟨x, xs, rfl, r, t⟩ := h
    rw [D.cmpAll, Bool.and_eq_true] at c
    exact .cons (Rep.dp e d x r c.1) (RepAll.dp e ds xs t c.2)
end
theorem RepT.dp (e : RdLe F H) {d : D} {v : V} (h : RepT K H F d v) (c : D.cmp d = true) : Dp K H v d.py := by
  cases d with
  | tup ds =>
    obtain ⟨a, xs, rfl, e2, e3⟩ := h
    rw [D.cmp] at c
    exact .tup e2 (RepAll.dp e ds xs e3 c)
  | lst ds =>
    obtain ⟨a, xs, rfl, e2, e3⟩ := h
    rw [D.cmp] at c
    exact .lst (SqL.of e2) (RepAll.dp e ds xs e3 c)
  | dic _ => simp [D.cmp] at c
  | exc _ _ => simp [D.cmp] at c
  | scr _ => simp [D.cmp] at c
  | non => exact Rep.dp e _ _ (show Rep K F .non v from h) c
  | bl b => exact Rep.dp e _ _ (show Rep K F (.bl b) v from h) c
  | int b => exact Rep.dp e _ _ (show Rep K F (.int b) v from h) c
  | str b => exact Rep.dp e _ _ (show Rep K F (.str b) v from h) c
mutual
theorem py_lay : ∀ d : D, D.cmp d = true → d.py.canLay0 = true
  | .non, _ => by simp [D.py, PyData.canLay0]
  | .bl _, _ => by simp [D.py, PyData.canLay0]
  | .int _, _ => by simp [D.py, PyData.canLay0]
  | .str s, _ => by simp only [D.py, PyData.canLay0]; exact wd_ok s
  | .tup ds, c => by rw [D.cmp] at c; simp only [D.py, PyData.canLay0]; exact pyAll_lay ds c
  | .lst ds, c => by rw [D.cmp] at c; simp only [D.py, PyData.canLay0]; exact pyAll_lay ds c
  | .dic _, c => by simp [D.cmp] at c
  | .exc _ _, c => by simp [D.cmp] at c
  | .scr _, c => by simp [D.cmp] at c
theorem pyAll_lay : ∀ ds : List D, D.cmpAll ds = true → PyData.canLayAll0 (D.pyAll ds) = true
  | [], _ => by simp [D.pyAll, PyData.canLayAll0]
  | d :: ds, c => by
    rw [D.cmpAll, Bool.and_eq_true] at c
    simp only [D.pyAll, PyData.canLayAll0, Bool.and_eq_true]
    exact ⟨py_lay d c.1, pyAll_lay ds c.2⟩
end
mutual
theorem py_dep : ∀ d : D, d.py.depth ≤ d.dep
  | .non => by simp [D.py, PyData.depth]
  | .bl _ => by simp [D.py, PyData.depth]
  | .int _ => by simp [D.py, PyData.depth]
  | .str s => by simp [D.py, PyData.depth]
  | .tup ds => by have := pyAll_dep ds; simp only [D.py, PyData.depth, D.dep]; omega
  | .lst ds => by have := pyAll_dep ds; simp only [D.py, PyData.depth, D.dep]; omega
  | .dic _ => by simp [D.py, PyData.depth]
  | .exc _ _ => by simp [D.py, PyData.depth]
  | .scr _ => by simp [D.py, PyData.depth]
theorem pyAll_dep : ∀ ds : List D, PyData.depthAll (D.pyAll ds) ≤ D.depAll ds
  | [] => by simp [D.pyAll, PyData.depthAll]
  | d :: ds => by
    have h1 := py_dep d
    have h2 := pyAll_dep ds
    simp only [D.pyAll, PyData.depthAll, D.depAll]
    omega
end
/-- the words within are known -/
theorem beq_wd {a b : Nat} (ha : a < words.length) (hb : b < words.length) : (wd a == wd b) = (a == b) := by
  by_cases h : a = b
  · subst h; simp
  · rw [beq_eq_false_iff_ne.mpr h, beq_eq_false_iff_ne.mpr fun q => h (wd_inj ha hb q)]
mutual
theorem eqv_py : ∀ (a b : D) (v u : V), Rep K F a v → Rep K F b u → D.cmp a = true → D.cmp b = true → PyData.eqv a.py b.py = D.eqv a b
  | .str a, .str b, v, u, ha, hb, _, _ => by
    rw [Rep] at ha hb
    simp only [D.py, PyData.eqv, D.eqv]
    exact beq_wd ha.1 hb.1
  | .tup xs, .tup ys, v, u, ha, hb, ca, cb => by
    rw [Rep] at ha hb
    rw [D.cmp] at ca cb
    obtain ⟨_, vs, _, _, e1⟩ := ha
    obtain ⟨_, us, _, _, e2⟩ := hb
    simp only [D.py, PyData.eqv, D.eqv]
    exact eqv_pyAll xs ys vs us e1 e2 ca cb
  | .lst xs, .lst ys, v, u, ha, hb, ca, cb => by
    rw [Rep] at ha hb
    rw [D.cmp] at ca cb
    obtain ⟨_, vs, _, _, e1⟩ := ha
    obtain ⟨_, us, _, _, e2⟩ := hb
    simp only [D.py, PyData.eqv, D.eqv]
    exact eqv_pyAll xs ys vs us e1 e2 ca cb
  | .non, b, _, _, _, _, _, cb => by cases b <;> simp [D.py, PyData.eqv, D.eqv, D.cmp] at *
  | .bl _, b, _, _, _, _, _, cb => by cases b <;> simp [D.py, PyData.eqv, D.eqv, D.cmp] at *
  | .int _, b, _, _, _, _, _, cb => by cases b <;> simp [D.py, PyData.eqv, D.eqv, D.cmp] at *
  | .str _, .non, _, _, _, _, _, _ => by simp [D.py, PyData.eqv, D.eqv]
  | .str _, .bl _, _, _, _, _, _, _ => by simp [D.py, PyData.eqv, D.eqv]
  | .str _, .int _, _, _, _, _, _, _ => by simp [D.py, PyData.eqv, D.eqv]
  | .str _, .tup _, _, _, _, _, _, _ => by simp [D.py, PyData.eqv, D.eqv]
  | .str _, .lst _, _, _, _, _, _, _ => by simp [D.py, PyData.eqv, D.eqv]
  | .tup _, .non, _, _, _, _, _, _ => by simp [D.py, PyData.eqv, D.eqv]
  | .tup _, .bl _, _, _, _, _, _, _ => by simp [D.py, PyData.eqv, D.eqv]
  | .tup _, .int _, _, _, _, _, _, _ => by simp [D.py, PyData.eqv, D.eqv]
  | .tup _, .str _, _, _, _, _, _, _ => by simp [D.py, PyData.eqv, D.eqv]
  | .tup _, .lst _, _, _, _, _, _, _ => by simp [D.py, PyData.eqv, D.eqv]
  | .lst _, .non, _, _, _, _, _, _ => by simp [D.py, PyData.eqv, D.eqv]
  | .lst _, .bl _, _, _, _, _, _, _ => by simp [D.py, PyData.eqv, D.eqv]
  | .lst _, .int _, _, _, _, _, _, _ => by simp [D.py, PyData.eqv, D.eqv]
  | .lst _, .str _, _, _, _, _, _, _ => by simp [D.py, PyData.eqv, D.eqv]
  | .lst _, .tup _, _, _, _, _, _, _ => by simp [D.py, PyData.eqv, D.eqv]
  | .dic _, _, _, _, _, _, ca, _ => by simp [D.cmp] at ca
  | .exc _ _, _, _, _, _, _, ca, _ => by simp [D.cmp] at ca
  | .scr _, _, _, _, _, _, ca, _ => by simp [D.cmp] at ca
  | .str _, .scr _, _, _, _, _, _, cb => by simp [D.cmp] at cb
  | .tup _, .scr _, _, _, _, _, _, cb => by simp [D.cmp] at cb
  | .lst _, .scr _, _, _, _, _, _, cb => by simp [D.cmp] at cb
  | .str _, .dic _, _, _, _, _, _, cb => by simp [D.cmp] at cb
  | .str _, .exc _ _, _, _, _, _, _, cb => by simp [D.cmp] at cb
  | .tup _, .dic _, _, _, _, _, _, cb => by simp [D.cmp] at cb
  | .tup _, .exc _ _, _, _, _, _, _, cb => by simp [D.cmp] at cb
  | .lst _, .dic _, _, _, _, _, _, cb => by simp [D.cmp] at cb
  | .lst _, .exc _ _, _, _, _, _, _, cb => by simp [D.cmp] at cb
theorem eqv_pyAll : ∀ (xs ys : List D) (vs us : List V), RepAll K F xs vs → RepAll K F ys us → D.cmpAll xs = true → D.cmpAll ys = true → PyData.eqvAll (D.pyAll xs) (D.pyAll ys) = D.eqvAll xs ys
  | [], [], _, _, _, _, _, _ => by simp [D.pyAll, PyData.eqvAll, D.eqvAll]
  | [], _ :: _, _, _, _, _, _, _ => by simp [D.pyAll, PyData.eqvAll, D.eqvAll]
  | _ :: _, [], _, _, _, _, _, _ => by simp [D.pyAll, PyData.eqvAll, D.eqvAll]
  | x :: xs, y :: ys, _, _, h, g, ca, cb => by
    rw [RepAll] at h g
    obtain ⟨a, as, rfl, r, t⟩ := h
    obtain ⟨b, bs, rfl, r', t'⟩ := g
    rw [D.cmpAll, Bool.and_eq_true] at ca cb
    simp only [D.pyAll, PyData.eqvAll, D.eqvAll]
    rw [eqv_py x y a b r r' ca.1 cb.1, eqv_pyAll xs ys as bs t t' ca.2 cb.2]
end
theorem eqv_top {a b : D} {v u : V} (ha : RepT K H F a v) (hb : RepT K H F b u) (ca : D.cmp a = true) (cb : D.cmp b = true) : PyData.eqv a.py b.py = D.eqv a b := by
  cases a with
  | tup xs =>
    cases b with
    | tup ys =>
      obtain ⟨_, vs, _, _, e1⟩ := ha
      obtain ⟨_, us, _, _, e2⟩ := hb
      rw [D.cmp] at ca cb
      simp only [D.py, PyData.eqv, D.eqv]
      exact eqv_pyAll xs ys vs us e1 e2 ca cb
    | dic _ => simp [D.cmp] at cb
    | exc _ _ => simp [D.cmp] at cb
    | scr _ => simp [D.cmp] at cb
    | _ => simp [D.py, PyData.eqv, D.eqv]
  | lst xs =>
    cases b with
    | lst ys =>
      obtain ⟨_, vs, _, _, e1⟩ := ha
      obtain ⟨_, us, _, _, e2⟩ := hb
      rw [D.cmp] at ca cb
      simp only [D.py, PyData.eqv, D.eqv]
      exact eqv_pyAll xs ys vs us e1 e2 ca cb
    | dic _ => simp [D.cmp] at cb
    | exc _ _ => simp [D.cmp] at cb
    | scr _ => simp [D.cmp] at cb
    | _ => simp [D.py, PyData.eqv, D.eqv]
  | str s =>
    cases b with
    | str t =>
      simp only [D.py, PyData.eqv, D.eqv]
      exact beq_wd ha.str.1 hb.str.1
    | dic _ => simp [D.cmp] at cb
    | exc _ _ => simp [D.cmp] at cb
    | scr _ => simp [D.cmp] at cb
    | _ => simp [D.py, PyData.eqv, D.eqv]
  | dic _ => simp [D.cmp] at ca
  | exc _ _ => simp [D.cmp] at ca
  | scr _ => simp [D.cmp] at ca
  | non => cases b <;> simp [D.py, PyData.eqv, D.eqv, D.cmp] at *
  | bl _ => cases b <;> simp [D.py, PyData.eqv, D.eqv, D.cmp] at *
  | int _ => cases b <;> simp [D.py, PyData.eqv, D.eqv, D.cmp] at *
end

/-! ### rules by values that the layer lacks -/
section
variable {X : Cx}
def rEqN (K : PySem.W.Frag) : R2 := fun x y H Q => ∃ d e, Dp K H x d ∧ Dp K H y e ∧ d.canLay0 = true ∧ e.canLay0 = true ∧ min d.depth e.depth ≤ 190 ∧ Q (.bl (PyData.eqv d e)) H
def rNeN (K : PySem.W.Frag) : R2 := fun x y H Q => ∃ d e, Dp K H x d ∧ Dp K H y e ∧ d.canLay0 = true ∧ e.canLay0 = true ∧ min d.depth e.depth ≤ 190 ∧ Q (.bl (!PyData.eqv d e)) H
theorem op_eqN (hu : X.A.units + 190 < cLine) : OpR X (compareOp .Eq) (rEqN X.K) := by
  intro pins s σ H x y v u Q I rx ry h
  obtain ⟨d, e, hd, he, sd, se, hm, q⟩ := h
  obtain ⟨as, r1⟩ := Dp.reads I d x v hd rx
  obtain ⟨bs, r2⟩ := Dp.reads I e y u he ry
  exact SeqAt.compareEq_reads r1 r2 sd se (by omega) ⟨.bl _, H, I, rfl, q⟩
theorem op_neN (hu : X.A.units + 190 < cLine) : OpR X (compareOp .NotEq) (rNeN X.K) := by
  intro pins s σ H x y v u Q I rx ry h
  obtain ⟨d, e, hd, he, sd, se, hm, q⟩ := h
  obtain ⟨as, r1⟩ := Dp.reads I d x v hd rx
  obtain ⟨bs, r2⟩ := Dp.reads I e y u he ry
  exact SeqAt.compareNe_reads r1 r2 sd se (by omega) ⟨.bl _, H, I, rfl, q⟩
def rDIn (neg : Bool) : R2 := fun x y H Q => ∃ a o, y = .ref a ∧ DGet H a x o ∧ Q (.bl (if neg then !o.isSome else o.isSome)) H
theorem op_din (hu : X.A.units + 1 < cLine) : OpR X (compareOp .In) (rDIn false) := by
  intro pins s σ H x y v u Q I rx ry h
  obtain ⟨a, o, rfl, g, q⟩ := h
  cases ry
  exact d_in hu I g rx fun s' I' => ⟨.bl _, H, I', rfl, q⟩
theorem op_dnotin (hu : X.A.units + 1 < cLine) : OpR X (compareOp .NotIn) (rDIn true) := by
  intro pins s σ H x y v u Q I rx ry h
  obtain ⟨a, o, rfl, g, q⟩ := h
  cases ry
  exact d_notIn hu I g rx fun s' I' => ⟨.bl _, H, I', rfl, q⟩
end
end KS

set_option Elab.async false
set_option linter.all false
set_option maxRecDepth 100000
namespace KS
open PySem L2
/-! ### two dicts compared -/
inductive HitsD (K : PySem.W.Frag) (H : Hp) (ls : List (Key × V)) : List (Key × V) → Bool → Prop where
  | nil : HitsD K H ls [] true
  | miss {k : Key} {v : V} {r : List (Key × V)} (h : valV ls k = none) : HitsD K H ls ((k, v) :: r) false
  | hit {k : Key} {v u : V} {r : List (Key × V)} {d e : PyData} {b : Bool} (h : valV ls k = some u) (h1 : Dp K H v d) (h2 : Dp K H u e) (h3 : d.canLay0 = true) (h4 : e.canLay0 = true) (h5 : d.depth ≤ 180) (t : HitsD K H ls r b) :
      HitsD K H ls ((k, v) :: r) (PyData.eqv d e && b)
section
variable {X : Cx} {pins : List (Addr × Obj)} {σ : St} {H : Hp} {s : Shared}
theorem hits_of (I : Inv X pins σ H s) {A : Around} (hu : A.units + 180 < cLine) {ls : List (Key × V)} {vb : List (Key × Value)} (rb : KV ls vb) {ks : List (Key × V)} {c : Bool} (h : HitsD X.K H ls ks c) :
    ∀ {va : List (Key × Value)}, KV ks va → PySem.W.KeqHits A s vb va c := by
  induction h with
  | nil => intro va r; cases r; exact .nil
  | @miss k v r h =>
    intro va ra
    cases ra with
    | @cons p q ps qs h1 t =>
      obtain ⟨key, w⟩ := q
      obtain ⟨e1, e2⟩ := h1
      have e1 : k = key := e1
      subst e1
      have rr : RelO none (valueAt vb k) := by rw [← h]; exact rb.val k
      have : valueAt vb k = none := by
        cases z : valueAt vb k with
        | none => rfl
        | some y => rw [z] at rr; exact rr.elim
      exact .miss this
  | @hit k v u r d e b h h1 h2 h3 h4 h5 t ih =>
    intro va ra
    cases ra with
    | @cons p q ps qs g1 g2 =>
      obtain ⟨key, w⟩ := q
      obtain ⟨e1, e2⟩ := g1
      have e1 : k = key := e1
      subst e1
      have rr : RelO (some u) (valueAt vb k) := by rw [← h]; exact rb.val k
      obtain ⟨y, hy, ry⟩ := rr.some_of
      obtain ⟨as, r1⟩ := Dp.reads I d v w h1 e2
      obtain ⟨bs, r2⟩ := Dp.reads I e u y h2 ry
      exact .hit hy (SeqAt.eqAt_reads d e A s w y as bs r1 r2 h3 h4 (by omega)) (ih g2)
end
section
variable {X : Cx}
def rDEq (K : PySem.W.Frag) (neg : Bool) : R2 := fun x y H Q => ∃ a b ks ls c, x = .ref a ∧ y = .ref b ∧ Rd H a (.dK ks) ∧ Rd H b (.dK ls) ∧ HitsD K H ls ks c ∧ Q (.bl (if neg then !(ks.length == ls.length && c) else (ks.length == ls.length && c))) H
theorem op_eqDD (hu : X.A.units + 190 < cLine) : OpR X (compareOp .Eq) (rDEq X.K false) := by
  intro pins s σ H x y v u Q I rx ry h
  obtain ⟨a, b, ks, ls, c, rfl, rfl, ea, eb, hc, q⟩ := h
  cases (show v = Value.ref a from rx)
  cases (show u = Value.ref b from ry)
  obtain ⟨_, ya, va, ra, da⟩ := dk_rd I.hok ea
  obtain ⟨_, yb, vb, rb, db⟩ := dk_rd I.hok eb
  refine PySem.W.keq_eq (knd := mixKind X.prog X.w) (r := c) ya yb da db (by omega) (fun _ => hits_of I (by show X.A.units + 1 + 180 < cLine; omega) rb hc ra) ⟨.bl _, H, I, rfl, ?_⟩
  rw [← ra.length, ← rb.length]
  exact q
theorem op_neDD (hu : X.A.units + 190 < cLine) : OpR X (compareOp .NotEq) (rDEq X.K true) := by
  intro pins s σ H x y v u Q I rx ry h
  obtain ⟨a, b, ks, ls, c, rfl, rfl, ea, eb, hc, q⟩ := h
  cases (show v = Value.ref a from rx)
  cases (show u = Value.ref b from ry)
  obtain ⟨_, ya, va, ra, da⟩ := dk_rd I.hok ea
  obtain ⟨_, yb, vb, rb, db⟩ := dk_rd I.hok eb
  refine PySem.W.keq_ne (knd := mixKind X.prog X.w) (r := c) ya yb da db (by omega) (fun _ => hits_of I (by show X.A.units + 1 + 180 < cLine; omega) rb hc ra) ⟨.bl _, H, I, rfl, ?_⟩
  rw [← ra.length, ← rb.length]
  exact q
end
section
variable {K : PySem.W.Frag} {H F : Hp}
theorem hitKV_sound (e : RdLe F H) {bs : List (Ky × D)} {ws : List (Key × V)} (rb : RepKV K F bs ws) (cb : kvOk bs = true) : ∀ {as : List (Ky × D)} {vs : List (Key × V)}, RepKV K F as vs → kvOk as = true → HitsD K H ws vs (hitKV bs as)
  | [], vs, h, _ => by rw [RepKV] at h; subst h; exact .nil
  | (k, d) :: as, vs, h, c => by
    rw [RepKV] at h
    obtain ⟨x, xs, rfl, hk, r, t⟩ := h
    unfold kvOk at c
    rw [List.all_cons, Bool.and_eq_true, Bool.and_eq_true, decide_eq_true_eq] at c
    rcases rb.get hk with ⟨g1, g2⟩ | ⟨u, y, g1, g2, g3⟩
    · rw [show hitKV bs ((k, d) :: as) = false by simp only [hitKV, g1]]
      exact .miss g2
    · rw [show hitKV bs ((k, d) :: as) = (D.eqv d u && hitKV bs as) by simp only [hitKV, g1]]
      have cu : D.cmp u = true := by
        unfold kvOk at cb
        have : ∃ kv, kv ∈ bs ∧ kv.2 = u := by
          unfold getK at g1
          obtain ⟨kv, h1, h2⟩ := Option.map_eq_some_iff.mp g1
          exact ⟨kv, List.mem_of_find?_eq_some h1, h2⟩
        obtain ⟨kv, hm, rfl⟩ := this
        have := List.all_eq_true.mp cb kv hm
        rw [Bool.and_eq_true] at this
        exact this.1
      rw [← eqv_py d u x y r g3 c.1.1 cu]
      exact .hit g2 (Rep.dp e d x r c.1.1) (Rep.dp e u y g3 cu) (py_lay d c.1.1) (py_lay u cu) (Nat.le_trans (py_dep d) c.1.2) (hitKV_sound e rb cb t c.2)
end
end KS

set_option Elab.async false
set_option linter.all false
set_option maxRecDepth 100000
namespace KS
open PySem L2

/-- the heap as it was, or with one new thing -/
def Nw (H H' : Hp) : Prop := H' = H ∨ ∃ p o, H p = none ∧ H' = upd H p o
theorem Nw.refl (H : Hp) : Nw H H := .inl rfl
theorem Nw.new {H : Hp} {p : Addr} {o : HO} (h : H p = none) : Nw H (upd H p o) := .inr ⟨p, o, h, rfl⟩
theorem Nw.stp {t : Nat → Bool} {lab : Lab} {H H' : Hp} (n : Nw H H') (ok : LabOk lab H) : Stp t lab H H' := by
  rcases n with rfl | ⟨p, o, h, rfl⟩
  · exact Stp.refl _ _ _
  · exact Stp.new ok h
theorem lim_eq : lim = sizeLine := by rw [sizeLine_eq]; rfl

def opF : Op → (Value → Value → Sem Value)
  | .add => binaryOp .Add
  | .sub => binaryOp .Sub
  | .mul => binaryOp .Mult
  | .fdiv => binaryOp .FloorDiv
  | .mod => binaryOp .Mod
  | .pow => binaryOp .Pow
  | .eq => compareOp .Eq
  | .ne => compareOp .NotEq
  | .lt => compareOp .Lt
  | .le => compareOp .LtE
  | .gt => compareOp .Gt
  | .ge => compareOp .GtE
  | .isin => compareOp .In
  | .notin => compareOp .NotIn
  | .isx => compareOp .Is
  | .isnx => compareOp .IsNot
  | .ladd => binaryOp .Add
def rIsN : R2 := fun x y H Q => y = .non ∧ Q (.bl (decide (x = .non))) H
def rNotN : R2 := fun x y H Q => y = .non ∧ Q (.bl (!decide (x = .non))) H
def rOr (r r' : R2) : R2 := fun x y H Q => r x y H Q ∨ r' x y H Q
def rOp (K : PySem.W.Frag) : Op → R2
  | .add => rOr (rI0 fun i j => .int (i + j)) (rOr (rCatA K) rCat)
  | .sub => rI0 fun i j => .int (i - j)
  | .mul => rOr (rI CMul fun i j => .int (i * j)) rRep
  | .fdiv => rI CDiv fun i j => .int (i / j)
  | .mod => rI (fun _ j => 0 < j) fun i j => .int (i % j)
  | .pow => rI CPow fun i j => .int (i ^ j.toNat)
  | .eq => rOr (rEqN K) (rDEq K false)
  | .ne => rOr (rNeN K) (rDEq K true)
  | .lt => rI0 fun i j => .bl (decide (i < j))
  | .le => rI0 fun i j => .bl (decide (i ≤ j))
  | .gt => rI0 fun i j => .bl (decide (j < i))
  | .ge => rI0 fun i j => .bl (decide (j ≤ i))
  | .isin => rOr (rIn K false) (rDIn false)
  | .notin => rOr (rIn K true) (rDIn true)
  | .isx => rOr rIsB rIsN
  | .isnx => rOr rNotB rNotN
  | .ladd => rCat
theorem op_ok {X : Cx} (hu : X.A.units + 190 < cLine) (o : Op) : OpR X (opF o) (rOp X.K o) := by
  cases o with
  | add => exact op_add.or (op_catA.or op_cat)
  | sub => exact op_sub
  | mul => exact op_mul.or op_rep
  | fdiv => exact op_fdiv
  | mod => exact op_mod
  | pow => exact op_pow
  | eq => exact (op_eqN hu).or (op_eqDD hu)
  | ne => exact (op_neN hu).or (op_neDD hu)
  | lt => exact op_lt
  | le => exact op_le
  | gt => exact op_gt
  | ge => exact op_ge
  | isin => exact op_in_seq.or (op_din (by omega))
  | notin => exact op_notIn_seq.or (op_dnotin (by omega))
  | isx => exact op_isBl.or op_isN
  | isnx => exact op_notBl.or op_notN
  | ladd => exact op_cat

section
variable {K : PySem.W.Frag} {H F : Hp}
theorem scalar_rep {d : D} {v : V} (h : Rep K F d v) (s : d.scalar = true) : flatV v = true := by
  cases d with
  | non => rw [Rep] at h; subst h; rfl
  | bl b => rw [Rep] at h; subst h; rfl
  | int b => rw [Rep] at h; subst h; rfl
  | str b => rw [Rep] at h; rw [h.2]; rfl
  | _ => cases s
theorem scalar_repT {d : D} {v : V} (h : RepT K H F d v) (s : d.scalar = true) : Rep K F d v := by
  cases d with
  | non => exact h
  | bl b => exact h
  | int b => exact h
  | str b => exact h
  | _ => cases s
theorem eqv_scalar {a b : D} {v u : V} (ha : Rep K F a v) (hb : Rep K F b u) (sa : a.scalar = true) (sb : b.scalar = true) : eqV v u = D.eqv a b := by
  cases a with
  | str s =>
    rw [Rep] at ha
    cases b with
    | str t => rw [Rep] at hb; rw [ha.2, hb.2]; exact beq_wd ha.1 hb.1
    | non => rw [Rep] at hb; rw [ha.2, hb]; rfl
    | bl _ => rw [Rep] at hb; rw [ha.2, hb]; rfl
    | int _ => rw [Rep] at hb; rw [ha.2, hb]; rfl
    | _ => cases sb
  | non =>
    rw [Rep] at ha; subst ha
    cases b with
    | str t => rw [Rep] at hb; rw [hb.2]; rfl
    | non => rw [Rep] at hb; subst hb; rfl
    | bl _ => rw [Rep] at hb; subst hb; rfl
    | int _ => rw [Rep] at hb; subst hb; rfl
    | _ => cases sb
  | bl x =>
    rw [Rep] at ha; subst ha
    cases b with
    | str t => rw [Rep] at hb; rw [hb.2]; rfl
    | non => rw [Rep] at hb; subst hb; rfl
    | bl _ => rw [Rep] at hb; subst hb; rfl
    | int _ => rw [Rep] at hb; subst hb; rfl
    | _ => cases sb
  | int x =>
    rw [Rep] at ha; subst ha
    cases b with
    | str t => rw [Rep] at hb; rw [hb.2]; rfl
    | non => rw [Rep] at hb; subst hb; rfl
    | bl _ => rw [Rep] at hb; subst hb; rfl
    | int _ => rw [Rep] at hb; subst hb; rfl
    | _ => cases sb
  | _ => cases sa
theorem flat_all : ∀ {ds : List D} {vs : List V}, RepAll K F ds vs → ds.all D.scalar = true → vs.all flatV = true
  | [], _, h, _ => by rw [RepAll] at h; subst h; rfl
  | d :: ds, _, h, s => by
    rw [RepAll] at h
    obtain ⟨x, xs, rfl, r, t⟩ := h
    rw [List.all_cons, Bool.and_eq_true] at s ⊢
    exact ⟨scalar_rep r s.1, flat_all t s.2⟩
theorem in_all {a : D} {v : V} (ha : Rep K F a v) (sa : a.scalar = true) : ∀ {ds : List D} {vs : List V}, RepAll K F ds vs → ds.all D.scalar = true → inV v vs = ds.any fun y => D.eqv y a
  | [], _, h, _ => by rw [RepAll] at h; subst h; rfl
  | d :: ds, _, h, s => by
    rw [RepAll] at h
    obtain ⟨x, xs, rfl, r, t⟩ := h
    rw [List.all_cons, Bool.and_eq_true] at s
    have ih := in_all ha sa t s.2
    unfold inV at ih ⊢
    rw [List.any_cons, List.any_cons, eqv_scalar r ha s.1 sa, ih]
theorem inD_sound {a : D} {v : V} {ds : List D} {vs : List V} {b : Bool} (ha : RepT K H F a v) (hs : RepAll K F ds vs) (e : inD a ds = some b) : flatV v = true ∧ vs.all flatV = true ∧ inV v vs = b := by
  unfold inD at e
  split at e
  · rename_i c
    rw [Bool.and_eq_true] at c
    cases e
    have ha' := scalar_repT ha c.1
    exact ⟨scalar_rep ha' c.1, flat_all hs c.2, in_all ha' c.1 hs c.2⟩
  · cases e
theorem not_non {d : D} {v : V} (h : RepT K H F d v) (n : d ≠ .non) : decide (v = V.non) = false := by
  cases d with
  | non => exact (n rfl).elim
  | bl b => rw [h.bl]; rfl
  | int b => rw [h.int]; rfl
  | str b => rw [h.str.2]; rfl
  | tup _ => obtain ⟨a, xs, rfl, _⟩ := h; rfl
  | lst _ => obtain ⟨a, xs, rfl, _⟩ := h; rfl
  | dic _ => obtain ⟨a, xs, rfl, _⟩ := h; rfl
  | scr _ => obtain ⟨a, rfl, _⟩ := h; rfl
  | exc c pl => have h : Rep K F (.exc c pl) v := h; rw [Rep] at h; obtain ⟨a, C, dx, xs, rfl, _⟩ := h; rfl
theorem keyT {d : D} {v : V} {k : Ky} (h : RepT K H F d v) (e : keyOf d = some k) : v = kV (kyK k) ∧ kyOk k := by
  cases d with
  | int i => exact key_rep (show Rep K F (.int i) v from h) e
  | str s => exact key_rep (show Rep K F (.str s) v from h) e
  | _ => cases e
theorem rangeBool {j : Int} (h : inRange j = true) : -(2 ^ 64) < j ∧ j < 2 ^ 64 := by
  unfold inRange at h
  rw [Bool.and_eq_true, decide_eq_true_eq, decide_eq_true_eq] at h
  exact ⟨by have := h.1; omega, by have := h.2; omega⟩
theorem eqOk_of {a b : D} (h : eqOk a b = true) : D.cmp a = true ∧ D.cmp b = true ∧ min a.py.depth b.py.depth ≤ 190 := by
  unfold eqOk at h
  rw [Bool.and_eq_true, Bool.and_eq_true, decide_eq_true_eq] at h
  have h1 := py_dep a
  have h2 := py_dep b
  exact ⟨h.1.1, h.1.2, by have := h.2; omega⟩
end

theorem rep_tup_new {K : PySem.W.Frag} {lab : Lab} {H : Hp} {p : Addr} {ds : List D} {vs : List V} (ok : LabOk lab H) (h : H p = none) (r : RepAll K (FH H lab) ds vs) :
    Rep K (FH (upd H p (.tup vs)) lab) (.tup ds) (.ref p) := by
  rw [Rep]
  exact ⟨p, vs, rfl, SqT.of (FH_new ok h), RepAll.mono (Stp.new (t := fun _ => false) ok h).rd _ _ r⟩
theorem rep_lst_new {K : PySem.W.Frag} {lab : Lab} {H : Hp} {p : Addr} {ds : List D} {vs : List V} (ok : LabOk lab H) (h : H p = none) (r : RepAll K (FH H lab) ds vs) :
    Rep K (FH (upd H p (.lst vs)) lab) (.lst ds) (.ref p) := by
  rw [Rep]
  exact ⟨p, vs, rfl, FH_new ok h, RepAll.mono (Stp.new (t := fun _ => false) ok h).rd _ _ r⟩
theorem rep_dic_new {K : PySem.W.Frag} {lab : Lab} {H : Hp} {p : Addr} {ds : List (Ky × D)} {vs : List (Key × V)} (ok : LabOk lab H) (h : H p = none) (r : RepKV K (FH H lab) ds vs) :
    Rep K (FH (upd H p (.dK vs)) lab) (.dic ds) (.ref p) := by
  rw [Rep]
  exact ⟨p, vs, rfl, .inl (FH_new ok h), RepKV.mono (Stp.new (t := fun _ => false) ok h).rd _ _ r⟩

/-- a tuple that is read is frozen or somebody's: tuples are nobody's -/
def TupFree (lab : Lab) (H : Hp) : Prop := ∀ a l xs, lab a = some l → ¬ Rd H a (.tup xs)
theorem sqT_free {K : PySem.W.Frag} {lab : Lab} {H : Hp} {a : Addr} {xs : List V} (tf : TupFree lab H) (h : SqT K H a xs) : SqT K (FH H lab) a xs := by
  rcases h with h | h
  · have e : lab a = none := by
      cases q : lab a with
      | none => rfl
      | some l => exact (tf a l xs q h).elim
    left
    unfold Rd at h ⊢
    rw [FH_of e]
    exact h
  · exact .inr h

set_option maxHeartbeats 1000000 in
theorem op_sound {K : PySem.W.Frag} {lab : Lab} {H : Hp} {o : Op} {a b d : D} {x y : V} {Q : VK} (ok : LabOk lab H) (tf : TupFree lab H) (hx : RepT K H (FH H lab) a x) (hy : RepT K H (FH H lab) b y) (e : opD o a b = some d)
    (q : ∀ v H', Nw H H' → Rep K (FH H' lab) d v → Q v H') : rOp K o x y H Q := by
  have le := FH_le (H := H) (lab := lab)
  have qb : ∀ c, d = .bl c → Q (.bl c) H := fun c h => q _ _ (Nw.refl H) (by rw [h]; exact rep_bl)
  have qi : ∀ c, d = .int c → Q (.int c) H := fun c h => q _ _ (Nw.refl H) (by rw [h]; exact rep_int)
  cases o with
  | add =>
    simp only [opD, dop_add] at e
    split at e
    · cases e
      exact .inl ⟨_, _, hx.int, hy.int, qi _ rfl⟩
    · rename_i xs ys
      split at e
      · rename_i hl
        cases e
        obtain ⟨p, vs, rfl, e2, e3⟩ := hx
        obtain ⟨p', us, rfl, f2, f3⟩ := hy
        refine .inr (.inl ⟨p, p', vs, us, rfl, rfl, e2, f2, by rw [← e3.length, ← f3.length, ← lim_eq]; exact hl, fun h => ?_, fun h h' => ?_, fun h h' r hr => ?_⟩)
        · refine q _ _ (Nw.refl H) ?_
          have hz : xs = [] := e3.nil_iff.mp h
          subst hz
          rw [Rep]
          exact ⟨p', us, rfl, sqT_free tf f2, f3⟩
        · refine q _ _ (Nw.refl H) ?_
          have hz : ys = [] := f3.nil_iff.mp h'
          subst hz
          rw [Rep, List.append_nil]
          exact ⟨p, vs, rfl, sqT_free tf e2, e3⟩
        · exact q _ _ (Nw.new hr) (rep_tup_new ok hr (e3.append f3))
      · cases e
    · rename_i xs ys
      split at e
      · rename_i hl
        cases e
        obtain ⟨p, vs, rfl, e2, e3⟩ := hx
        obtain ⟨p', us, rfl, f2, f3⟩ := hy
        exact .inr (.inr ⟨p, p', vs, us, rfl, rfl, e2, f2, by rw [← e3.length, ← f3.length, ← lim_eq]; exact hl, fun r hr => q _ _ (Nw.new hr) (rep_lst_new ok hr (e3.append f3))⟩)
      · cases e
    · cases e
  | ladd =>
    simp only [opD, dop_ladd] at e
    split at e
    · rename_i xs ys
      split at e
      · rename_i hl
        cases e
        obtain ⟨p, vs, rfl, e2, e3⟩ := hx
        obtain ⟨p', us, rfl, f2, f3⟩ := hy
        exact ⟨p, p', vs, us, rfl, rfl, e2, f2, by rw [← e3.length, ← f3.length, ← lim_eq]; exact hl, fun r hr => q _ _ (Nw.new hr) (rep_lst_new ok hr (e3.append f3))⟩
      · cases e
    · cases e
  | sub =>
    simp only [opD, dop_sub] at e
    split at e
    · cases e; exact ⟨_, _, hx.int, hy.int, qi _ rfl⟩
    · cases e
  | mul =>
    simp only [opD, dop_mul] at e
    split at e
    · split at e
      · rename_i hr
        cases e
        rw [Bool.or_eq_true] at hr
        exact .inl ⟨_, _, hx.int, hy.int, hr.imp rangeBool rangeBool, qi _ rfl⟩
      · cases e
    · split at e
      · rename_i hr
        cases e
        obtain ⟨p, vs, rfl, e2, e3⟩ := hx
        refine .inr ⟨p, _, vs, rfl, hy.int, e2, by have := hr.1; omega, by have := hr.2.1; omega, by rw [← e3.length, ← lim_eq]; exact hr.2.2, fun r hr' => q _ _ (Nw.new hr') (rep_lst_new ok hr' (e3.rep _))⟩
      · cases e
    · cases e
  | fdiv =>
    simp only [opD, dop_fdiv] at e
    split at e
    · split at e
      · rename_i hr; cases e; exact ⟨_, _, hx.int, hy.int, hr, qi _ rfl⟩
      · cases e
    · cases e
  | mod =>
    simp only [opD, dop_mod] at e
    split at e
    · split at e
      · rename_i hr; cases e; exact ⟨_, _, hx.int, hy.int, hr, qi _ rfl⟩
      · cases e
    · cases e
  | pow =>
    simp only [opD, dop_pow] at e
    split at e
    · split at e
      · rename_i hr; cases e; exact ⟨_, _, hx.int, hy.int, ⟨hr.1, hr.2.1, by have := hr.2.2; omega⟩, qi _ rfl⟩
      · cases e
    · cases e
  | eq =>
    by_cases hd : ∃ as bs, a = .dic as ∧ b = .dic bs
    · obtain ⟨as, bs, rfl, rfl⟩ := hd
      have e : (if (kvOk as && kvOk bs) = true then some (D.bl (eqKV as bs)) else none) = some d := e
      split at e
      · rename_i hr
        cases e
        rw [Bool.and_eq_true] at hr
        obtain ⟨p, vs, rfl, e2, e3⟩ := hx
        obtain ⟨q', ws, rfl, f2, f3⟩ := hy
        refine .inr ⟨p, q', vs, ws, _, rfl, rfl, e2, f2, hitKV_sound le f3 hr.2 e3 hr.1, ?_⟩
        rw [← e3.length, ← f3.length]
        exact qb _ rfl
      · cases e
    · have e : (if eqOk a b = true then some (D.bl (D.eqv a b)) else none) = some d := by
        cases a <;> first | exact e | (cases b <;> first | exact e | exact (hd ⟨_, _, rfl, rfl⟩).elim)
      split at e
      · rename_i hr
        cases e
        obtain ⟨c1, c2, c3⟩ := eqOk_of hr
        refine .inl ⟨a.py, b.py, hx.dp le c1, hy.dp le c2, py_lay a c1, py_lay b c2, c3, ?_⟩
        rw [eqv_top hx hy c1 c2]
        exact qb _ rfl
      · cases e
  | ne =>
    by_cases hd : ∃ as bs, a = .dic as ∧ b = .dic bs
    · obtain ⟨as, bs, rfl, rfl⟩ := hd
      have e : (if (kvOk as && kvOk bs) = true then some (D.bl (!eqKV as bs)) else none) = some d := e
      split at e
      · rename_i hr
        cases e
        rw [Bool.and_eq_true] at hr
        obtain ⟨p, vs, rfl, e2, e3⟩ := hx
        obtain ⟨q', ws, rfl, f2, f3⟩ := hy
        refine .inr ⟨p, q', vs, ws, _, rfl, rfl, e2, f2, hitKV_sound le f3 hr.2 e3 hr.1, ?_⟩
        rw [← e3.length, ← f3.length]
        exact qb _ rfl
      · cases e
    · have e : (if eqOk a b = true then some (D.bl (!D.eqv a b)) else none) = some d := by
        cases a <;> first | exact e | (cases b <;> first | exact e | exact (hd ⟨_, _, rfl, rfl⟩).elim)
      split at e
      · rename_i hr
        cases e
        obtain ⟨c1, c2, c3⟩ := eqOk_of hr
        refine .inl ⟨a.py, b.py, hx.dp le c1, hy.dp le c2, py_lay a c1, py_lay b c2, c3, ?_⟩
        rw [eqv_top hx hy c1 c2]
        exact qb _ rfl
      · cases e
  | lt =>
    simp only [opD, dop_lt] at e
    split at e
    · cases e; exact ⟨_, _, hx.int, hy.int, qb _ rfl⟩
    · cases e
  | le =>
    simp only [opD, dop_le] at e
    split at e
    · cases e; exact ⟨_, _, hx.int, hy.int, qb _ rfl⟩
    · cases e
  | gt =>
    simp only [opD, dop_gt] at e
    split at e
    · cases e; exact ⟨_, _, hx.int, hy.int, qb _ rfl⟩
    · cases e
  | ge =>
    simp only [opD, dop_ge] at e
    split at e
    · cases e; exact ⟨_, _, hx.int, hy.int, qb _ rfl⟩
    · cases e
  | isin =>
    simp only [opD, dop_isin] at e
    split at e
    · obtain ⟨p, vs, rfl, e2, e3⟩ := hy
      obtain ⟨c, ec, rfl⟩ := Option.map_eq_some_iff.mp e
      obtain ⟨h1, h2, h3⟩ := inD_sound hx e3 ec
      refine .inl ⟨p, vs, rfl, .inr e2, h1, h2, ?_⟩
      rw [if_neg Bool.false_ne_true, h3]
      exact qb _ rfl
    · obtain ⟨p, vs, rfl, e2, e3⟩ := hy
      obtain ⟨c, ec, rfl⟩ := Option.map_eq_some_iff.mp e
      obtain ⟨h1, h2, h3⟩ := inD_sound hx e3 ec
      refine .inl ⟨p, vs, rfl, .inl (SqL.of e2), h1, h2, ?_⟩
      rw [if_neg Bool.false_ne_true, h3]
      exact qb _ rfl
    · obtain ⟨p, vs, rfl, e2, e3⟩ := hy
      obtain ⟨k, ek, rfl⟩ := Option.map_eq_some_iff.mp e
      obtain ⟨rfl, hk⟩ := keyT hx ek
      refine .inr ⟨p, valV vs (kyK k), rfl, .inl ⟨vs, kyK k, e2, rfl, rfl⟩, ?_⟩
      rw [if_neg Bool.false_ne_true]
      refine qb _ ?_
      rcases e3.get hk with ⟨g1, g2⟩ | ⟨d', x', g1, g2, _⟩
      · rw [g1, g2]; rfl
      · rw [g1, g2]; rfl
    · cases e
  | notin =>
    simp only [opD, dop_notin] at e
    split at e
    · obtain ⟨p, vs, rfl, e2, e3⟩ := hy
      obtain ⟨c, ec, rfl⟩ := Option.map_eq_some_iff.mp e
      obtain ⟨h1, h2, h3⟩ := inD_sound hx e3 ec
      refine .inl ⟨p, vs, rfl, .inr e2, h1, h2, ?_⟩
      rw [if_pos rfl, h3]
      exact qb _ rfl
    · obtain ⟨p, vs, rfl, e2, e3⟩ := hy
      obtain ⟨c, ec, rfl⟩ := Option.map_eq_some_iff.mp e
      obtain ⟨h1, h2, h3⟩ := inD_sound hx e3 ec
      refine .inl ⟨p, vs, rfl, .inl (SqL.of e2), h1, h2, ?_⟩
      rw [if_pos rfl, h3]
      exact qb _ rfl
    · obtain ⟨p, vs, rfl, e2, e3⟩ := hy
      obtain ⟨k, ek, rfl⟩ := Option.map_eq_some_iff.mp e
      obtain ⟨rfl, hk⟩ := keyT hx ek
      refine .inr ⟨p, valV vs (kyK k), rfl, .inl ⟨vs, kyK k, e2, rfl, rfl⟩, ?_⟩
      rw [if_pos rfl]
      refine qb _ ?_
      rcases e3.get hk with ⟨g1, g2⟩ | ⟨d', x', g1, g2, _⟩
      · rw [g1, g2]; rfl
      · rw [g1, g2]; rfl
    · cases e
  | isx =>
    simp only [opD, dop_isx] at e
    split at e
    · cases e; exact .inl ⟨_, _, hx.bl, hy.bl, qb _ rfl⟩
    · cases e; refine .inr ⟨hy.non, ?_⟩; rw [hx.non]; exact qb _ rfl
    all_goals first
      | (cases e; done)
      | (cases e; refine .inr ⟨hy.non, ?_⟩; rw [not_non hx (fun z => nomatch z)]; exact qb _ rfl)
  | isnx =>
    simp only [opD, dop_isnx] at e
    split at e
    · cases e; exact .inl ⟨_, _, hx.bl, hy.bl, qb _ rfl⟩
    · cases e; refine .inr ⟨hy.non, ?_⟩; rw [hx.non]; exact qb _ rfl
    all_goals first
      | (cases e; done)
      | (cases e; refine .inr ⟨hy.non, ?_⟩; rw [not_non hx (fun z => nomatch z)]; exact qb _ rfl)
end KS

set_option Elab.async false
set_option linter.all false
set_option maxRecDepth 100000
namespace KS
open PySem L2
section
variable {K : PySem.W.Frag} {lab : Lab} {H : Hp}

theorem ix_sound {a i d : D} {x y : V} {Q : VK} (hx : RepT K H (FH H lab) a x) (hy : RepT K H (FH H lab) i y) (e : ixND a i = some d) (q : ∀ v, Rep K (FH H lab) d v → Q v H) : rIx K x y H Q := by
  cases a with
  | tup ds =>
    cases i with
    | int z =>
      obtain ⟨p, vs, rfl, e2, e3⟩ := hx
      obtain ⟨v, e4, e5⟩ := atI_rep e3 (show atI ds z = some d from e)
      exact .inr (.inl ⟨p, vs, z, v, rfl, hy.int, e2, e4, q v e5⟩)
    | _ => cases e
  | lst ds =>
    cases i with
    | int z =>
      obtain ⟨p, vs, rfl, e2, e3⟩ := hx
      obtain ⟨v, e4, e5⟩ := atI_rep e3 (show atI ds z = some d from e)
      exact .inl ⟨p, vs, z, v, rfl, hy.int, SqL.of e2, e4, q v e5⟩
    | _ => cases e
  | scr ns =>
    cases i with
    | int z =>
      obtain ⟨p, rfl, e2⟩ := hx
      obtain ⟨n, en, rfl⟩ := Option.map_eq_some_iff.mp (show (atI ns z).map D.int = some d from e)
      refine .inl ⟨p, _, z, .int n, rfl, hy.int, e2, ?_, q _ rep_int⟩
      unfold atI at en ⊢
      rw [List.length_map]
      cases w : ixN ns.length z with
      | none => rw [w] at en; cases en
      | some j =>
        rw [w] at en
        have en' : ns[j]? = some n := en
        show (ns.map V.int)[j]? = _
        rw [List.getElem?_map, en']; rfl
    | _ => cases e
  | _ => cases i <;> cases e
theorem dx_sound {a i d : D} {x y : V} {Q : VK} (hx : RepT K H (FH H lab) a x) (hy : RepT K H (FH H lab) i y) (e : ixDD a i = some d) (q : ∀ v, Rep K (FH H lab) d v → Q v H) : ∃ p v, x = .ref p ∧ DGet H p y (some v) ∧ Q v H := by
  cases a with
  | dic kvs =>
    obtain ⟨p, vs, rfl, e2, e3⟩ := hx
    have go : ∀ k, y = kV (kyK k) → kyOk k → getK kvs k = some d → ∃ q v, V.ref p = .ref q ∧ DGet H q y (some v) ∧ Q v H := fun k ey hk eg => by
      rcases e3.get hk with ⟨g1, _⟩ | ⟨d', v, g1, g2, g3⟩
      · rw [g1] at eg; cases eg
      · rw [g1] at eg; cases eg
        exact ⟨p, v, rfl, .inl ⟨vs, kyK k, e2, ey, g2.symm⟩, q v g3⟩
    cases i with
    | int z => exact go (.inl z) hy.int trivial e
    | str s => exact go (.inr s) hy.str.2 hy.str.1 e
    | _ => cases e
  | _ => cases e
def rSl (K : PySem.W.Frag) : V → Option Int → Option Int → Hp → VK → Prop := fun x lo hi H Q => rSlL K x lo hi H Q ∨ rSlA K x lo hi H Q
theorem sl_ok {X : Cx} : SlR X (rSl X.K) := sl_list.or sl_tupA
theorem slc_sound {a d : D} {x : V} {lo hi : Option Int} {Q : VK} (ok : LabOk lab H) (tf : TupFree lab H) (hx : RepT K H (FH H lab) a x) (e : slcD a lo hi = some d) (q : ∀ v H', Nw H H' → Rep K (FH H' lab) d v → Q v H') : rSl K x lo hi H Q := by
  cases a with
  | tup ds =>
    cases e
    obtain ⟨p, vs, rfl, e2, e3⟩ := hx
    refine .inr ⟨p, vs, rfl, e2, fun hw => q _ _ (Nw.refl H) ?_, fun hw r hr => q _ _ (Nw.new hr) (rep_tup_new ok hr (e3.cut lo hi))⟩
    have c := e3.cut lo hi
    have : cutV vs lo hi = vs := by
      unfold cutV
      rw [hw.1, hw.2, List.drop_zero, Nat.sub_zero, List.take_length]
    rw [this] at c
    rw [Rep]
    exact ⟨p, vs, rfl, sqT_free tf e2, c⟩
  | lst ds =>
    cases e
    obtain ⟨p, vs, rfl, e2, e3⟩ := hx
    exact .inl ⟨p, vs, rfl, SqL.of e2, fun r hr => q _ _ (Nw.new hr) (rep_lst_new ok hr (e3.cut lo hi))⟩
  | _ => cases e
theorem truth_sound {a : D} {x : V} {b : Bool} (hx : RepT K H (FH H lab) a x) (e : truth a = some b) : TruV K x H b := by
  cases a with
  | non => cases e; rw [hx.non]; exact rfl
  | bl c => cases e; rw [hx.bl]; exact rfl
  | int c => cases e; rw [hx.int]; exact rfl
  | str c => cases e
  | tup ds =>
    cases e
    obtain ⟨p, vs, rfl, e2, e3⟩ := hx
    refine .inr (.inl ⟨vs, e2, ?_⟩)
    have := e3.length
    cases ds <;> cases vs <;> simp at *
  | lst ds =>
    cases e
    obtain ⟨p, vs, rfl, e2, e3⟩ := hx
    refine .inl ⟨vs, SqL.of e2, ?_⟩
    have := e3.length
    cases ds <;> cases vs <;> simp at *
  | dic _ => cases e
  | exc _ _ => cases e
  | scr ns =>
    cases e
    obtain ⟨p, rfl, e2⟩ := hx
    refine .inl ⟨_, e2, ?_⟩
    cases ns <;> rfl
end

/-! ### the built-in functions -/
def bifV : Bif → Value
  | .len => .builtin "len"
  | .tuple => .type "tuple"
  | .list => .type "list"
  | .dict => .type "dict"
  | .int => .type "int"
  | .all => .builtin "all"
  | .any => .builtin "any"
  | .max2 => .builtin "max"
  | .min2 => .builtin "min"
  | .lrange => .none
  | .lzip => .none
  | .sum => .builtin "sum"
def bifN : Bif → Str
  | .len => "len"
  | .tuple => "tuple"
  | .list => "list"
  | .dict => "dict"
  | .int => "int"
  | .all => "all"
  | .any => "any"
  | .max2 => "max"
  | .min2 => "min"
  | .lrange => "list"
  | .lzip => "list"
  | .sum => "sum"
abbrev RC := List V → Hp → VK → Prop
def rcOr (r r' : RC) : RC := fun xs H Q => r xs H Q ∨ r' xs H Q
def rLenRd : RC := fun xs H Q => ∃ a kvs, xs = [V.ref a] ∧ Rd H a (.dK kvs) ∧ Q (.int kvs.length) H
theorem call_lenRd {X : Cx} : CallR X (.builtin "len") rLenRd := by
  intro pins s σ H xs us Q I r h
  obtain ⟨a, kvs, rfl, hd, q⟩ := h
  obtain ⟨u, rfl, ru⟩ := vals1 r
  cases ru
  exact d_len I hd fun t s' I' => ⟨.int _, H, I', ⟨t, rfl⟩, q⟩
def rBif (K : PySem.W.Frag) : Bif → RC
  | .len => rcOr (fun xs H Q => ∃ p ys, xs = [.ref p] ∧ (SqL K H p ys ∨ SqT K H p ys) ∧ Q (.int ys.length) H) rLenRd
  | .tuple => fun xs H Q => ∃ p ys, xs = [.ref p] ∧ ((SqL K H p ys ∧ ∀ l, H l = none → Q (.ref l) (upd H l (.tup ys))) ∨ (SqT K H p ys ∧ Q (.ref p) H))
  | .list => rcOr (fun xs H Q => ∃ p ys, xs = [.ref p] ∧ (SqL K H p ys ∨ SqT K H p ys) ∧ ∀ l, H l = none → Q (.ref l) (upd H l (.lst ys)))
      (fun xs H Q => ∃ (a : Addr) (kvs : List (Key × V)), xs = [.ref a] ∧ Rd H a (.dK kvs) ∧ ∀ p, H p = none → Q (.ref p) (upd H p (.lst (kvs.map fun kv => kV kv.1))))
  | .dict => rcOr (fun xs H Q => ∃ (a : Addr) (kvs : List (Key × V)), xs = [.ref a] ∧ Rd H a (.dK kvs) ∧ ∀ p, H p = none → Q (.ref p) (upd H p (.dK kvs)))
      (fun xs H Q => ∃ (a : Addr) (ps : List Addr) (kvs : List (Key × V)), xs = [.ref a] ∧ SqL K H a (ps.map V.ref) ∧ Paired (fun p kv => SqT K H p [kV kv.1, kv.2]) ps kvs ∧ ∀ p, H p = none → Q (.ref p) (upd H p (.dK (mergeK [] kvs))))
  | .int => fun xs H Q => (∃ i, xs = [.int i] ∧ Q (.int i) H) ∨ ∃ k, xs = [.bl k] ∧ Q (.int (if k then 1 else 0)) H
  | .all => rAll K
  | .any => rAny K
  | .max2 => fun xs H Q => ∃ i j, xs = [.int i, .int j] ∧ Q (.int (if j > i then j else i)) H
  | .min2 => fun xs H Q => ∃ i j, xs = [.int i, .int j] ∧ Q (.int (if j < i then j else i)) H
  | .lrange => fun _ _ _ => False
  | .lzip => fun _ _ _ => False
  | .sum => rSum K
theorem bif_ok {X : Cx} (hc : X.calm = true) (b : Bif) : CallR X (bifV b) (rBif X.K b) := by
  cases b with
  | len => exact call_len_seq.or call_lenRd
  | tuple => exact call_tuple_of
  | list => exact call_list_of.or (call_listD hc)
  | dict => exact call_dictD.or (call_dictP hc)
  | int => exact call_int1
  | all => exact cr_all hc
  | any => exact cr_any hc
  | max2 => exact call_max2 hc
  | min2 => exact call_min2 hc
  | lrange => exact fun _ _ _ _ _ _ _ _ _ h => h.elim
  | lzip => exact fun _ _ _ _ _ _ _ _ _ h => h.elim
  | sum => exact cr_sum hc
section
variable {K : PySem.W.Frag} {lab : Lab} {H : Hp}
/-- arguments, each read in place -/
inductive RepTs (K : PySem.W.Frag) (H F : Hp) : List D → List V → Prop where
  | nil : RepTs K H F [] []
  | cons {d : D} {v : V} {ds : List D} {vs : List V} (h : RepT K H F d v) (t : RepTs K H F ds vs) : RepTs K H F (d :: ds) (v :: vs)
theorem allBl_rep : ∀ {ds : List D} {vs : List V} {bs : List Bool}, RepAll K (FH H lab) ds vs → allBl ds = some bs → vs = bs.map V.bl
  | [], _, _, h, e => by rw [RepAll] at h; subst h; cases e; rfl
  | d :: ds, _, bs, h, e => by
    rw [RepAll] at h
    obtain ⟨x, xs, rfl, r, t⟩ := h
    cases d with
    | bl b =>
      obtain ⟨cs, ec, rfl⟩ := Option.map_eq_some_iff.mp (show (allBl ds).map (b :: ·) = some bs from e)
      rw [Rep] at r
      rw [r, allBl_rep t ec]
      rfl
    | _ => cases e
theorem allInt_rep : ∀ {ds : List D} {vs : List V} {bs : List Int}, RepAll K (FH H lab) ds vs → allInt ds = some bs → vs = bs.map V.int
  | [], _, _, h, e => by rw [RepAll] at h; subst h; cases e; rfl
  | d :: ds, _, bs, h, e => by
    rw [RepAll] at h
    obtain ⟨x, xs, rfl, r, t⟩ := h
    cases d with
    | int b =>
      obtain ⟨cs, ec, rfl⟩ := Option.map_eq_some_iff.mp (show (allInt ds).map (b :: ·) = some bs from e)
      rw [Rep] at r
      rw [r, allInt_rep t ec]
      rfl
    | _ => cases e
theorem pairsK_cons {d : D} {ds : List D} {kvs : List (Ky × D)} (e : pairsK (d :: ds) = some kvs) : ∃ k v ky r, d = .tup [k, v] ∧ keyOf k = some ky ∧ pairsK ds = some r ∧ kvs = (ky, v) :: r := by
  unfold pairsK at e
  split at e
  · cases ‹_ :: _ = []›
  · rename_i k v r h
    injection h with h1 h2
    subst h1 h2
    split at e
    · rename_i ky rr e1 e2
      cases e
      exact ⟨k, v, ky, rr, rfl, e1, e2, rfl⟩
    · cases e
  · cases e
theorem pairs_rep (tf : TupFree lab H) : ∀ {ds : List D} {vs : List V} {kvs : List (Ky × D)}, RepAll K (FH H lab) ds vs → pairsK ds = some kvs →
    ∃ (ps : List Addr) (ks : List (Key × V)), vs = ps.map V.ref ∧ Paired (fun p kv => SqT K H p [kV kv.1, kv.2]) ps ks ∧ RepKV K (FH H lab) kvs ks
  | [], _, _, h, e => by rw [RepAll] at h; subst h; cases e; exact ⟨[], [], rfl, .nil, .nil⟩
  | d :: ds, _, kvs, h, e => by
    rw [RepAll] at h
    obtain ⟨x, xs, rfl, r, t⟩ := h
    obtain ⟨k, v, ky, rr, rfl, ek, er, rfl⟩ := pairsK_cons e
    obtain ⟨ps, ks, rfl, hp, hk⟩ := pairs_rep tf t er
    rw [Rep] at r
    obtain ⟨a, ws, rfl, e2, e3⟩ := r
    rw [RepAll] at e3
    obtain ⟨y, ys, rfl, r1, e4⟩ := e3
    rw [RepAll] at e4
    obtain ⟨z, zs, rfl, r2, e5⟩ := e4
    rw [RepAll] at e5
    subst e5
    obtain ⟨rfl, hky⟩ := key_rep r1 ek
    exact ⟨a :: ps, (kyK ky, z) :: ks, rfl, .cons (FH_le.seqT e2) hp, .cons hky r2 hk⟩
theorem bif_sound {b : Bif} {as : List D} {d : D} {vs : List V} {Q : VK} (ok : LabOk lab H) (tf : TupFree lab H) (hl : b ≠ .lrange) (hz : b ≠ .lzip) (hx : RepTs K H (FH H lab) as vs) (e : bifD b as = some d) (q : ∀ v H', Nw H H' → Rep K (FH H' lab) d v → Q v H') : rBif K b vs H Q := by
  have qb : ∀ c, d = .bl c → Q (.bl c) H := fun c h => q _ _ (Nw.refl H) (by rw [h]; exact rep_bl)
  have qi : ∀ c, d = .int c → Q (.int c) H := fun c h => q _ _ (Nw.refl H) (by rw [h]; exact rep_int)
  cases b with
  | lrange => exact (hl rfl).elim
  | lzip => exact (hz rfl).elim
  | len =>
    cases hx with
    | nil => cases e
    | cons h t =>
      cases t with
      | cons _ _ => rename_i dd _ _ _ _ _ _ _; cases dd <;> cases e
      | nil =>
        rename_i dd v
        cases dd with
        | tup ds =>
          cases e
          obtain ⟨p, ws, rfl, e2, e3⟩ := h
          exact .inl ⟨p, ws, rfl, .inr e2, qi _ (by rw [e3.length])⟩
        | lst ds =>
          cases e
          obtain ⟨p, ws, rfl, e2, e3⟩ := h
          exact .inl ⟨p, ws, rfl, .inl (SqL.of e2), qi _ (by rw [e3.length])⟩
        | scr ns =>
          cases e
          obtain ⟨p, rfl, e2⟩ := h
          exact .inl ⟨p, _, rfl, .inl e2, qi _ (by rw [List.length_map])⟩
        | dic kvs =>
          cases e
          obtain ⟨p, ws, rfl, e2, e3⟩ := h
          exact .inr ⟨p, ws, rfl, e2, qi _ (by rw [e3.length])⟩
        | _ => cases e
  | tuple =>
    cases hx with
    | nil => cases e
    | cons h t =>
      cases t with
      | cons _ _ => rename_i dd _ _ _ _ _ _ _; cases dd <;> cases e
      | nil =>
        rename_i dd v
        cases dd with
        | tup ds =>
          cases e
          obtain ⟨p, ws, rfl, e2, e3⟩ := h
          exact ⟨p, ws, rfl, .inr ⟨e2, q _ _ (Nw.refl H) (by rw [Rep]; exact ⟨p, ws, rfl, sqT_free tf e2, e3⟩)⟩⟩
        | lst ds =>
          cases e
          obtain ⟨p, ws, rfl, e2, e3⟩ := h
          exact ⟨p, ws, rfl, .inl ⟨SqL.of e2, fun r hr => q _ _ (Nw.new hr) (rep_tup_new ok hr e3)⟩⟩
        | _ => cases e
  | list =>
    cases hx with
    | nil => cases e
    | cons h t =>
      cases t with
      | cons _ _ => rename_i dd _ _ _ _ _ _ _; cases dd <;> cases e
      | nil =>
        rename_i dd v
        cases dd with
        | tup ds =>
          cases e
          obtain ⟨p, ws, rfl, e2, e3⟩ := h
          exact .inl ⟨p, ws, rfl, .inr e2, fun r hr => q _ _ (Nw.new hr) (rep_lst_new ok hr e3)⟩
        | lst ds =>
          cases e
          obtain ⟨p, ws, rfl, e2, e3⟩ := h
          exact .inl ⟨p, ws, rfl, .inl (SqL.of e2), fun r hr => q _ _ (Nw.new hr) (rep_lst_new ok hr e3)⟩
        | dic kvs =>
          cases e
          obtain ⟨p, ws, rfl, e2, e3⟩ := h
          exact .inr ⟨p, ws, rfl, e2, fun r hr => q _ _ (Nw.new hr) (rep_lst_new ok hr e3.keys)⟩
        | _ => cases e
  | dict =>
    cases hx with
    | nil => cases e
    | cons h t =>
      cases t with
      | cons _ _ => rename_i dd _ _ _ _ _ _ _; cases dd <;> cases e
      | nil =>
        rename_i dd v
        cases dd with
        | lst ds =>
          obtain ⟨kvs, ek, rfl⟩ := Option.map_eq_some_iff.mp (show (pairsK ds).map (fun kvs => D.dic (mergeD [] kvs)) = some d from e)
          obtain ⟨p, ws, rfl, e2, e3⟩ := h
          obtain ⟨ps, ks, rfl, hp, hk⟩ := pairs_rep tf e3 ek
          exact .inr ⟨p, ps, ks, rfl, SqL.of e2, hp, fun r hr => q _ _ (Nw.new hr) (rep_dic_new ok hr (hk.merge .nil))⟩
        | dic kvs =>
          cases e
          obtain ⟨p, ws, rfl, e2, e3⟩ := h
          exact .inl ⟨p, ws, rfl, e2, fun r hr => q _ _ (Nw.new hr) (rep_dic_new ok hr e3)⟩
        | _ => cases e
  | int =>
    cases hx with
    | nil => cases e
    | cons h t =>
      cases t with
      | cons _ _ => rename_i dd _ _ _ _ _ _ _; cases dd <;> cases e
      | nil =>
        rename_i dd v
        cases dd with
        | bl c => cases e; exact .inr ⟨c, by rw [h.bl], qi _ rfl⟩
        | int c => cases e; exact .inl ⟨c, by rw [h.int], qi _ rfl⟩
        | _ => cases e
  | all =>
    cases hx with
    | nil => cases e
    | cons h t =>
      cases t with
      | cons _ _ => rename_i dd _ _ _ _ _ _ _; cases dd <;> cases e
      | nil =>
        rename_i dd v
        cases dd with
        | lst ds =>
          obtain ⟨bs, eb, rfl⟩ := Option.map_eq_some_iff.mp (show (allBl ds).map (fun bs => D.bl (bs.all id)) = some d from e)
          obtain ⟨p, ws, rfl, e2, e3⟩ := h
          have := allBl_rep e3 eb
          subst this
          exact ⟨p, bs, rfl, SqL.of e2, qb _ rfl⟩
        | _ => cases e
  | sum =>
    cases hx with
    | nil => cases e
    | cons h t =>
      cases t with
      | cons _ _ => rename_i dd _ _ _ _ _ _ _; cases dd <;> cases e
      | nil =>
        rename_i dd v
        cases dd with
        | lst ds =>
          obtain ⟨bs, eb, rfl⟩ := Option.map_eq_some_iff.mp (show (allInt ds).map (fun is => D.int is.sum) = some d from e)
          obtain ⟨p, ws, rfl, e2, e3⟩ := h
          have := allInt_rep e3 eb
          subst this
          exact ⟨p, bs, rfl, SqL.of e2, qi _ rfl⟩
        | _ => cases e
  | any =>
    cases hx with
    | nil => cases e
    | cons h t =>
      cases t with
      | cons _ _ => rename_i dd _ _ _ _ _ _ _; cases dd <;> cases e
      | nil =>
        rename_i dd v
        cases dd with
        | lst ds =>
          obtain ⟨bs, eb, rfl⟩ := Option.map_eq_some_iff.mp (show (allBl ds).map (fun bs => D.bl (bs.any id)) = some d from e)
          obtain ⟨p, ws, rfl, e2, e3⟩ := h
          have := allBl_rep e3 eb
          subst this
          exact ⟨p, bs, rfl, SqL.of e2, qb _ rfl⟩
        | _ => cases e
  | max2 =>
    unfold bifD at e
    split at e <;> first | (cases e; done) | skip
    all_goals (cases ‹Bif.max2 = _›; try (cases e; done))
    all_goals (cases e; cases hx with | cons h t => cases t with | cons h' t' => cases t'; exact ⟨_, _, by rw [h.int, h'.int], qi _ rfl⟩)
  | min2 =>
    unfold bifD at e
    split at e <;> first | (cases e; done) | skip
    all_goals (cases ‹Bif.min2 = _›; try (cases e; done))
    all_goals (cases e; cases hx with | cons h t => cases t with | cons h' t' => cases t'; exact ⟨_, _, by rw [h.int, h'.int], qi _ rfl⟩)
/-- d.get(k, x) -/
theorem get_sound {dd dk dy d : D} {x y z : V} {Q : VK} (hx : RepT K H (FH H lab) dd x) (hk : Rep K (FH H lab) dk y) (hy : Rep K (FH H lab) dy z) (e : getD2 dd dk dy = some d) (q : ∀ v, Rep K (FH H lab) d v → Q v H) :
    ∃ a, x = .ref a ∧ IsD H a ∧ ∃ o, DGet H a y o ∧ Q (o.getD z) H := by
  cases dd with
  | dic kvs =>
    obtain ⟨p, vs, rfl, e2, e3⟩ := hx
    cases ek : keyOf dk with
    | none => simp only [getD2, ek] at e; cases e
    | some k =>
      simp only [getD2, ek] at e
      cases e
      obtain ⟨rfl, hky⟩ := key_rep hk ek
      refine ⟨p, rfl, .inl ⟨vs, e2⟩, valV vs (kyK k), .inl ⟨vs, kyK k, e2, rfl, rfl⟩, ?_⟩
      rcases e3.get hky with ⟨g1, g2⟩ | ⟨d', v, g1, g2, g3⟩
      · rw [g2]; rw [g1] at q; exact q z hy
      · rw [g2]; rw [g1] at q; exact q v g3
  | _ => cases e
end
/-! ### isinstance -/
def tyB : Ty → String
  | .int => "int"
  | .bool => "bool"
  | .str => "str"
  | .tuple => "tuple"
  | .dict => "dict"
  | .list => "list"
  | .exc _ => "object"
theorem ty_of {K : PySem.W.Frag} {lab : Lab} {H : Hp} {a : D} {x : V} {ty : Ty} {b : Bool} (hx : RepT K H (FH H lab) a x) (hn : ∀ cs, ty ≠ .exc cs) (e : isiD a ty = some b) : ∃ T, TyX K H x (.type T) ∧ kitB T (tyB ty) = some b := by
  cases a with
  | non => rw [hx.non]; refine ⟨_, .base .non, ?_⟩; cases ty <;> first | (exact (hn _ rfl).elim) | (cases e <;> decide +kernel)
  | bl c => rw [hx.bl]; refine ⟨_, .base (.bl c), ?_⟩; cases ty <;> first | (exact (hn _ rfl).elim) | (cases e <;> decide +kernel)
  | int c => rw [hx.int]; refine ⟨_, .base (.int c), ?_⟩; cases ty <;> first | (exact (hn _ rfl).elim) | (cases e <;> decide +kernel)
  | str c => rw [hx.str.2]; refine ⟨_, .base (.str _), ?_⟩; cases ty <;> first | (exact (hn _ rfl).elim) | (cases e <;> decide +kernel)
  | tup ds =>
    obtain ⟨p, vs, rfl, e2, e3⟩ := hx
    have : TyX K H (.ref p) (.type "tuple") := by
      rcases e2 with (h | ⟨o, h⟩) | ⟨o, its, n, h1, h2, _⟩
      · exact .base (.tup h)
      · exact .fTuple h
      · exact .kTuple h1 h2
    refine ⟨_, this, ?_⟩; cases ty <;> first | (exact (hn _ rfl).elim) | (cases e <;> decide +kernel)
  | lst ds =>
    obtain ⟨p, vs, rfl, e2, e3⟩ := hx
    refine ⟨_, .base (.lst e2), ?_⟩; cases ty <;> first | (exact (hn _ rfl).elim) | (cases e <;> decide +kernel)
  | dic ds =>
    obtain ⟨p, vs, rfl, e2, e3⟩ := hx
    have : TyX K H (.ref p) (.type "dict") := by
      rcases e2 with h | ⟨o, h⟩
      · exact .base (.dK h)
      · exact .fDict h
    refine ⟨_, this, ?_⟩; cases ty <;> first | (exact (hn _ rfl).elim) | (cases e <;> decide +kernel)
  | exc _ _ => cases ty <;> first | (exact (hn _ rfl).elim) | cases e
  | scr _ => cases ty <;> cases e
end KS

set_option Elab.async false
set_option linter.all false
set_option maxRecDepth 100000
/-! Chk: when a Python text is of the form that a term of the calculus tells. -/
namespace KS
open PySem L2

structure Tb where
  fn : Nat → Option Str
  modes : Nat → List Bool
  gl : Nat → Option Str
  /-- a method's class and name -/
  mt : Nat → Option (Nat × Str) := fun _ => none
  /-- the classes that are made -/
  cl : Nat → Bool := fun _ => false
  /-- the fields -/
  fld : Nat → Bool := fun _ => false
  /-- the error classes stand in the text -/
  xs : Bool := false
  /-- which error classes the top has -/
  xc : Nat → Bool := fun _ => true
  /-- try may stand in the text -/
  tr : Bool := false
def isW (n : Nat) (s : Str) : Bool := decide (words[n]? = some s)
def dbgB (x : Str) : Bool := !(x == ("__debug__" : Str)) && !(x == ("__classdict__" : Str))
def visB (sc : Scope) (x : Str) : Bool := match sc.names.lookup x with
  | some .local => true
  | some .cell => true
  | some .free => true
  | _ => false
def locB (sc : Scope) (x : Str) : Bool := match sc.names.lookup x with
  | some .local => true
  | some .cell => true
  | _ => false
def glB (sc : Scope) (x : Str) : Bool := match sc.names.lookup x with
  | some .globalImplicit => true
  | _ => false
def starB : Expr → Bool
  | .Starred _ _ => true
  | _ => false
def sliceB : Expr → Bool
  | .Slice _ _ _ _ => true
  | _ => false
def setB : Expr → Bool
  | .Set _ _ _ => true
  | _ => false
def compB : Expr → Bool
  | .ListComp _ _ _ _ => true
  | .SetComp _ _ _ _ => true
  | .DictComp _ _ _ _ _ => true
  | _ => false
def tupB : Expr → Bool
  | .Tuple _ _ _ => true
  | _ => false
def supB : Expr → Bool
  | .Call (.Name _ _) [] [] _ => true
  | _ => false
def boolB : Expr → Bool
  | .BoolOp _ _ _ => true
  | _ => false
def binO : Op → Option Operator
  | .add => some .Add
  | .sub => some .Sub
  | .mul => some .Mult
  | .fdiv => some .FloorDiv
  | .mod => some .Mod
  | .pow => some .Pow
  | .ladd => some .Add
  | _ => none
def cmpO : Op → Option CmpOp
  | .eq => some .Eq
  | .ne => some .NotEq
  | .lt => some .Lt
  | .le => some .LtE
  | .gt => some .Gt
  | .ge => some .GtE
  | .isin => some .In
  | .notin => some .NotIn
  | .isx => some .Is
  | .isnx => some .IsNot
  | _ => none
def bifNm : Bif → Str
  | .len => "len"
  | .tuple => "tuple"
  | .list => "list"
  | .dict => "dict"
  | .int => "int"
  | .all => "all"
  | .any => "any"
  | .max2 => "max"
  | .min2 => "min"
  | .lrange => "list"
  | .lzip => "list"
  | .sum => "sum"
def tyNm : Ty → Option Str
  | .int => some "int"
  | .bool => some "bool"
  | .str => some "str"
  | .tuple => some "tuple"
  | .dict => some "dict"
  | .list => some "list"
  | .exc _ => none
def chkKeys : List Nat → List (Option Expr) → Bool
  | [], [] => true
  | k :: ks, some (.Constant (.str s) _ _) :: es => isW k s && chkKeys ks es
  | _, _ => false
/-- a name that is stored -/
def slotB (N : List Str) (sc : Scope) (i : Nat) (x : Str) : Bool := decide (N[i]? = some x) && locB sc x && dbgB x
def nameB (N : List Str) (sc : Scope) (i : Nat) (x : Str) : Bool := decide (N[i]? = some x) && visB sc x && dbgB x
/-- a list of names that are stored -/
def chkTgs (N : List Str) (sc : Scope) : List Nat → List Expr → Bool
  | [], [] => true
  | i :: is, .Name x _ :: es => slotB N sc i x && chkTgs N sc is es
  | _, _ => false
/-- a target: a name, or a tuple of names -/
def chkTg (N : List Str) (sc : Scope) (tg : List Nat) (e : Expr) : Bool := match tg, e with
  | [i], .Name x _ => slotB N sc i x
  | i :: j :: is, .Tuple es _ _ => chkTgs N sc (i :: j :: is) es
  | _, _ => false
/-- a place: a name (or, some time, a field) -/
def chkPl (N : List Str) (sc : Scope) (p : Pl) (e : Expr) : Bool := match p.2, e with
  | none, .Name x _ => nameB N sc p.1 x
  | _, _ => false
def ownOf (N : List Str) (tg : List Nat) : List (Str × Nat) := tg.map fun i => (N.getD i default, i)

/-- the target of a comprehension's single `if`, none is the true constant -/
def trueE : E → Bool
  | .bl true => true
  | _ => false
def noneE : E → Bool
  | .non => true
  | _ => false
variable (T : Tb) (N : List Str)
/-- the classes that isinstance is asked of -/
def chkX (sc : Scope) (c : Nat) (y : Str) : Bool := T.xs && glB sc y && dbgB y && ((decide (c < 5 ∧ T.xc c = true) && decide (excNm c = y)) || (decide (c = 5) && decide (y = ("ValueError" : Str))))
def chkXs (sc : Scope) : List Nat → List Expr → Bool
  | [], [] => true
  | c :: cs, .Name y _ :: es => decide (c < 5 ∧ T.xc c = true) && chkX T sc c y && chkXs sc cs es
  | _, _ => false
def chkIs (sc : Scope) (cs : List Nat) (e : Expr) : Bool := match cs, e with
  | [c], .Name y _ => chkX T sc c y
  | c :: d :: cs, .Tuple es _ _ => chkXs T sc (c :: d :: cs) es && decide (cs.length ≤ 90)
  | _, _ => false
mutual
def chkE (sc : Scope) : E → Expr → Bool
  | .var i, e => (match e with
    | .Name x _ => nameB N sc i x
    | _ => false)
  | .int i, e => (match e with
    | .Constant (.int j) _ _ => decide (i = j)
    | _ => false)
  | .str s, e => (match e with
    | .Constant (.str x) _ _ => isW s x
    | _ => false)
  | .bl b, e => (match e with
    | .Constant (.bool c) _ _ => b == c
    | _ => false)
  | .non, e => (match e with
    | .Constant .none _ _ => true
    | _ => false)
  | .glob g, e => (match e with
    | .Name x _ => decide (T.gl g = some x) && glB sc x && dbgB x
    | _ => false)
  | .fld _ _, _ => false
  | .tup es, e => (match e with
    | .Tuple l _ _ => chkEs sc es l
    | _ => false)
  | .lst es, e => (match e with
    | .List l _ => chkEs sc es l
    | _ => false)
  | .dic ks es, e => (match e with
    | .Dict keys vals _ => chkKeys ks keys && chkEs sc es vals && decide (keys.length = vals.length) && decide (keys.length ≤ 15)
    | _ => false)
  | .bin o a c, e => (match e with
    | .BinOp x op y _ => decide (binO o = some op) && chkE sc a x && chkE sc c y
    | .Compare x [op] [y] _ => decide (cmpO o = some op) && !setB y && chkE sc a x && chkE sc c y
    | _ => false)
  | .not_ a, e => (match e with
    | .UnaryOp .Not x _ => chkE sc a x
    | _ => false)
  | .neg a, e => (match e with
    | .UnaryOp .USub x _ => chkE sc a x
    | _ => false)
  | .and_ a c, e => (match e with
    | .BoolOp .And [x, y] _ => chkE sc a x && chkE sc c y
    | .BoolOp .And (x :: y :: z :: r) pos => chkE sc a x && chkE sc c (.BoolOp .And (y :: z :: r) pos)
    | _ => false)
  | .or_ a c, e => (match e with
    | .BoolOp .Or [x, y] _ => chkE sc a x && chkE sc c y
    | .BoolOp .Or (x :: y :: z :: r) pos => chkE sc a x && chkE sc c (.BoolOp .Or (y :: z :: r) pos)
    | _ => false)
  | .ife c a f, e => (match e with
    | .IfExp t x y _ => chkE sc c t && chkE sc a x && chkE sc f y
    | _ => false)
  | .ix a i, e => (match e with
    | .Subscript x y _ => !sliceB y && chkE sc a x && chkE sc i y
    | _ => false)
  | .dx a i, e => (match e with
    | .Subscript x y _ => !sliceB y && chkE sc a x && chkE sc i y
    | _ => false)
  | .slc a lo hi, e => (match e with
    | .Subscript x (.Slice l h none _) _ => chkE sc a x && (match l with
      | none => noneE lo
      | some x => !noneE lo && chkE sc lo x) && (match h with
      | none => noneE hi
      | some x => !noneE hi && chkE sc hi x)
    | _ => false)
  | .get d k y, e => (match e with
    | .Call (.Attribute o m apos) [e, f] [] cpos => decide (m = ("get" : Str)) && (apos.endLine == cpos.line) && !supB o && !starB e && !starB f && chkE sc d o && chkE sc k e && chkE sc y f
    | _ => false)
  | .setd p k y, e => (match e with
    | .Call (.Attribute o m apos) [e, f] [] cpos => decide (m = ("setdefault" : Str)) && (apos.endLine == cpos.line) && !starB e && !starB f && chkPl N sc p o && chkE sc k e && chkE sc y f
    | _ => false)
  | .pop p, e => (match e with
    | .Call (.Attribute o m apos) [] [] cpos => decide (m = ("pop" : Str)) && (apos.endLine == cpos.line) && chkPl N sc p o
    | _ => false)
  | .bif b es, e => (match b with
    | .lrange => (match es with
      | .cons a .nil => (match e with
        | .Call (.Name x _) [.Call (.Name y _) [e] [] _] [] _ => decide (x = ("list" : Str)) && decide (y = ("range" : Str)) && glB sc x && glB sc y && !starB e && chkE sc a e
        | _ => false)
      | _ => false)
    | .lzip => (match es with
      | .cons a (.cons c .nil) => (match e with
        | .Call (.Name x _) [.Call (.Name y _) [e, f] [] _] [] _ => decide (x = ("list" : Str)) && decide (y = ("zip" : Str)) && glB sc x && glB sc y && !starB e && !starB f && chkE sc a e && chkE sc c f
        | _ => false)
      | _ => false)
    | b => (match e with
      | .Call (.Name x _) (e :: es') [] _ => decide (bifNm b = x) && glB sc x && chkEs sc es (e :: es')
      | _ => false))
  | .isi a t, e => (match t with
   | .exc cs => (match e with
    | .Call (.Name x _) [e, y] [] _ => decide (x = ("isinstance" : Str)) && glB sc x && !starB e && chkE sc a e && chkIs T sc cs y
    | _ => false)
   | t => match e with
    | .Call (.Name x _) [e, .Name y _] [] _ => decide (x = ("isinstance" : Str)) && decide (tyNm t = some y) && glB sc x && glB sc y && !starB e && chkE sc a e
    | _ => false)
  | .comp m tg it c, e => (match e with
    | .ListComp elt [⟨tgt, iter, ifs, k⟩] scope _ => decide (k = 0) && chkI sc it iter && !setB iter && chkTg N scope tg tgt && chkE scope m elt && blkC N sc scope (ownOf N tg) && (match ifs with
      | [] => trueE c
      | [f] => chkE scope c f
      | _ => false)
    | _ => false)
  | .call f es, e => (match e with
    | .Call (.Name x _) (e :: es') [] _ => decide (T.fn f = some x) && decide (es.modes = T.modes f) && glB sc x && dbgB x && chkA sc es (e :: es')
    | _ => false)
  | .mv _, _ => false
  | .mf, _ => false
  | .dk1 ke v, e => (match e with
    | .Dict [some x] [y] _ => chkE sc ke x && chkE sc v y
    | _ => false)
  | .meth _ _ _ _, _ => false
  | .exf _, _ => false
  | .rix _ _, _ => false
  | .asDat i m, e => (match m with
    | .comp m tg it c => (match it with
      | .keys k => (match k with
        | .var j => (match e with
          | .ListComp elt [⟨tgt, .Name x _, ifs, k⟩] scope _ => decide (k = 0) && decide (j = i) && nameB N sc i x && chkTg N scope tg tgt && chkE scope m elt && blkC N sc scope (ownOf N tg) && (match ifs with
            | [] => trueE c
            | [f] => chkE scope c f
            | _ => false)
          | _ => false)
        | _ => false)
      | _ => false)
    | _ => false)
def chkEs (sc : Scope) : Es → List Expr → Bool
  | .nil, l => (match l with
    | [] => true
    | _ => false)
  | .cons a r, l => (match l with
    | e :: es => !starB e && chkE sc a e && chkEs sc r es
    | _ => false)
/-- a def's arguments -/
def chkA (sc : Scope) : Es → List Expr → Bool
  | .nil, l => (match l with
    | [] => true
    | _ => false)
  | .cons (.mv i) r, l => (match l with
    | .Name x _ :: es => nameB N sc i x && chkA sc r es
    | _ => false)
  | .cons .mf r, l => (match l with
    | .Dict [] [] _ :: es => chkA sc r es
    | _ => false)
  | .cons a r, l => (match l with
    | e :: es => !starB e && chkE sc a e && chkA sc r es
    | _ => false)
def chkI (sc : Scope) : It → Expr → Bool
  | .seq m, x => chkE sc m x
  | .rng1 a, e => (match e with
    | .Call (.Name x _) [e] [] _ => decide (x = ("range" : Str)) && glB sc x && !starB e && chkE sc a e
    | _ => false)
  | .rng2 a b, e => (match e with
    | .Call (.Name x _) [e, f] [] _ => decide (x = ("range" : Str)) && glB sc x && !starB e && !starB f && chkE sc a e && chkE sc b f
    | _ => false)
  | .keys _, _ => false
end

/-- a list comprehension stored to a name: on one line to a plain local (then the name is stored before the comprehension's own are let go), or not so -/
def compOk (sc : Scope) (x : Str) (px : Pos) (e : Expr) : Bool := match e with
  | .ListComp elt gs scope pos => (match sc.names.lookup x with
      | some .local => (px.line == pos.line) && !(scope.names.any fun (n, k) => n == x && (k == .local || k == .cell))
      | some .cell => true
      | _ => false)
  | e => !compB e
/-- what stands in an except clause -/
def chkHd (T : Tb) (N : List Str) (sc : Scope) (ms : List Bool) (c : Nat) : Hd → List ExceptHandler → Bool
  | .no, hs => (match hs with
    | [.ExceptHandler _ _ _ _] => true
    | _ => false)
  | .keep je j, hs => (match hs with
    | [.ExceptHandler (some (.Name cx _)) (some n) [.Assign [.Name y _] (.Name n2 _) _] _] => T.xs && decide (c < 5 ∧ T.xc c = true) && decide (excNm c = cx) && glB sc cx && dbgB cx && decide (N[je]? = some n) && decide (sc.names.lookup n = some .local) && nameB N sc je n2 && slotB N sc j y && decide (je ≠ j) && !(ms[je]? == some true) && !(ms[j]? == some true)
    | _ => false)
  | .set j b, hs => (match hs with
    | [.ExceptHandler (some (.Name cx _)) none [.Assign [.Name y _] (.Constant (.bool b2) _ _) _] _] => T.xs && decide (c < 5 ∧ T.xc c = true) && decide (excNm c = cx) && glB sc cx && dbgB cx && slotB N sc j y && !(ms[j]? == some true) && b == b2
    | _ => false)
  | .raise _, _ => false
variable (sc : Scope) (ms : List Bool)
/-- not a parameter that is handed back -/
def stoB (i : Nat) : Bool := !(ms[i]? == some true)
/-- names that are not stored in the reversed order -/
def cellB (sc : Scope) (es : List Expr) : Bool := match es with
  | .Name x _ :: _ => (match sc.names.lookup x with
    | some .cell => true
    | _ => false)
  | _ => false
/-- x, y = u, v -/
def chkSw (T : Tb) (N : List Str) (sc : Scope) (ms : List Bool) (i j : Nat) (a b : E) (es vs : List Expr) : Bool := match es, vs with
  | [.Name x px, .Name y py], [.Name u pu, .Name v pv] => slotB N sc i x && slotB N sc j y && stoB ms i && stoB ms j && chkE T N sc a (.Name u pu) && chkE T N sc b (.Name v pv) && (px.line == py.line) && dbgB u && decide (i ≠ j) && decide (sc.names.lookup x = some .local) && decide (sc.names.lookup y = some .local)
  | _, _ => false
mutual
def chkS : S → Stmt → Bool
  | .asg i e, st => (match st with
    | .Assign [.Name x px] v _ => slotB N sc i x && stoB ms i && compOk sc x px v && chkE T N sc e v
    | _ => false)
  | .asgO i e, st => (match st with
    | .Assign [.Name x px] v _ => slotB N sc i x && stoB ms i && compOk sc x px v && chkE T N sc e v
    | _ => false)
  | .asgT tg e, st => (match st with
    | .Assign [.Tuple es k p] v _ => chkTg N sc tg (.Tuple es k p) && tg.all (stoB ms) && (!tupB v || cellB sc es) && !compB v && chkE T N sc e v
    | _ => false)
  | .swap i j a b, st => (match st with
    | .Assign [.Tuple es _ _] (.Tuple vs _ _) _ => chkSw T N sc ms i j a b es vs
    | _ => false)
  | .setF _ _ _, _ => false
  | .setFO _ _ _, _ => false
  | .app p e, st => (match st with
    | .Expr (.Call (.Attribute o m apos) [v] [] cpos) _ => decide (m = ("append" : Str)) && (apos.endLine == cpos.line) && !starB v && chkPl N sc p o && chkE T N sc e v
    | _ => false)
  | .extd p e, st => (match st with
    | .Expr (.Call (.Attribute o m apos) [v] [] cpos) _ => decide (m = ("extend" : Str)) && (apos.endLine == cpos.line) && !starB v && chkPl N sc p o && chkE T N sc e v
    | _ => false)
  | .setL p k e, st => (match st with
    | .Assign [.Subscript o i _] v _ => !sliceB i && chkPl N sc p o && !compB v && chkE T N sc k i && chkE T N sc e v
    | _ => false)
  | .putD p k e, st => (match st with
    | .Assign [.Subscript o i _] v _ => !sliceB i && chkPl N sc p o && !compB v && chkE T N sc k i && chkE T N sc e v
    | _ => false)
  | .expr e, st => (match st with
    | .Expr v _ => !compB v && chkE T N sc e v
    | _ => false)
  | .ret e, st => (match st with
    | .Return (some v) _ => chkE T N sc e v
    | _ => false)
  | .retO i, st => (match st with
    | .Return (some (.Name x _)) _ => nameB N sc i x && stoB ms i
    | _ => false)
  | .if_ c a b, st => (match st with
    | .If t x y _ => chkE T N sc c t && chkSs a x && chkSs b y
    | _ => false)
  | .for_ tg it body, st => (match st with
    | .For t iter b [] _ => chkTg N sc tg t && tg.all (stoB ms) && !setB iter && chkI T N sc it iter && chkSs body b
    | _ => false)
  | .forD tg i body, st => (match st with
    | .For t (.Name x _) b [] _ => chkTg N sc tg t && tg.all (stoB ms) && nameB N sc i x && chkSs body b
    | _ => false)
  | .while_ c body, st => (match st with
    | .While t b [] _ => chkE T N sc c t && chkSs body b
    | _ => false)
  | .raise_ c es, st => (match es with
    | .nil => (match st with
      | .Raise (some (.Call (.Name y _) [.Constant (.str _) _ _] [] _)) none _ => T.xs && decide (c < 5 ∧ T.xc c = true) && decide (c ≠ 3) && decide (excNm c = y) && glB sc y && dbgB y
      | _ => false)
    | _ => false)
  | .skip, _ => true
  | .tryE i e c hd, st => (match st with
    | .Try [.Assign [.Name x px] v _] hs [] [] _ => slotB N sc i x && stoB ms i && compOk sc x px v && chkE T N sc e v && T.tr && chkHd T N sc ms c hd hs
    | _ => false)
  | .new _ _ _, _ => false
  | .retF _ _, _ => false
  | .upd _ _, _ => false
  | .popT _ _ _ _, _ => false
  | .cont, st => (match st with
    | .Continue _ => true
    | _ => false)
  | .brk, st => (match st with
    | .Break _ => true
    | _ => false)
  | .pass, st => (match st with
    | .Pass _ => true
    | _ => false)
def chkSs : Ss → List Stmt → Bool
  | .nil, l => (match l with
    | [] => true
    | _ => false)
  | .cons s r, l => (match l with
    | st :: sts => chkS s st && chkSs r sts
    | _ => false)
end
/-- a def of the text -/
def chkD (T : Tb) (d : Def) (st : Stmt) : Bool := match st with
  | .FunctionDef _ _ body _ _ _ sc _ _ _ => chkSs T d.names sc d.modes d.body body
  | _ => false
end KS

set_option Elab.async false
set_option linter.all false
set_option maxRecDepth 100000
/-! FnD: a def's promise where each call costs one of the recursion's room (the hand layer's FnOk counts three). -/
namespace KS
open PySem L2 PyProof.Rows PySem.Spec
structure RoomD (n : Nat) (A : Around) : Prop where
  hd : A.handled = none
  dp : A.depth + n + 8 < recursionLimit
  un : A.units + 4 * n + 600 < cLine
theorem RoomD.deeper {n : Nat} {A : Around} (r : RoomD (n + 1) A) (env : PySem.Env) : RoomD n (A.deeper env) :=
  ⟨r.hd, by have := r.dp; show A.depth + 1 + n + 8 < _; omega, by have := r.un; show A.units + 3 + 4 * n + 600 < _; omega⟩
structure FnD (P : Program) (w : World) (K : PySem.W.Frag) (mg : Str → Option Value) (base : Heap) (CX : CXT) (n : Nat) (f : Addr) (fd : FuncData) (ps : List Str) (sp : Sp) : Prop where
  len : ∀ vs H Q E, sp vs H Q E → vs.length = ps.length
  run : ∀ (A : Around) (outer : List PySem.Env) (s : Shared) (H : Hp) (args : Args) (us : List Value) (vs : List V) (Q : VK) (E : XK), RoomD n A → Env0 P w K mg base A outer s H → BindsTo s fd args (ps.zip us) → Vals vs us → sp vs H Q E →
    codeAny (model P w) A (.call (.ref f) args) (CR CX outer P w H s Q E) s
/-- the hand layer's promise: by room's first three parts -/
theorem FnD.ok {P : Program} {w : World} {K : PySem.W.Frag} {mg : Str → Option Value} {base : Heap} {CX : CXT} {n k : Nat} {f : Addr} {fd : FuncData} {ps : List Str} {sp : Sp} (F : FnD P w K mg base CX n f fd ps sp) (h1 : n + 4 ≤ 3 * k) (h2 : 4 * n + 400 ≤ 16 * k) : FnOk P w K mg base CX k f fd ps sp :=
  ⟨F.len, fun A outer s H args us vs Q E hr => F.run A outer s H args us vs Q E ⟨hr.hd, by have := hr.dp; omega, by have := hr.un; omega⟩⟩
section
variable {X : Cx} {CX : CXT} {n : Nat} {f : Addr} {fd : FuncData} {ps : List Str} {sp : Sp} {E : L2.St → XK} {x : Str} {p pos : Pos} {e : Expr} {es : List Expr} {t : TA}
theorem pe_callD (F : FnD X.prog X.w X.K X.mg X.base CX n f fd ps sp) (hr : RoomD n X.A) (hg : Gl X x) (hm : X.mg x = some (.ref f)) (hk : PySem.W.keepIn X.K (.ref f) = true) (hb : Binds X.K fd ps []) (hx : ∀ σ, PassesAt CX X σ (E σ))
    (ha : PA X (e :: es) t) (hdb : (x == ("__debug__" : Str)) = false) (he : starEach (e :: es) X.env = (false, eval e X.env) :: starEach es X.env) (hpl : (backTo pos (starEach es X.env)).any (·.1) = false) :
    PE X (.Call (.Name x p) (e :: es) [] pos) (tCallSD sp [] E t) := by
  refine ⟨fun pins s σ H Q I h => ?_⟩
  refine wpAny_Call_Name_kw (ld_glob I hg hm ?_ hdb)
  refine PySem.W.callWith_K (h₀ := X.base) I.ok.mod.kin hk (thn (ha.run pos pins s σ H _ I h) fun us s1 ⟨vs, H1, I1, r, q⟩ => ⟨I1.kIn, ?_⟩) he hpl
  have q : sp (vs ++ []) H1 Q (E σ) := q
  rw [List.append_nil] at q
  have hl : us.length = ps.length := by rw [← r.length]; exact F.len _ _ _ _ q
  have hbb := hb s1 us I1.kIn (by rw [List.append_nil]; exact hl)
  rw [List.append_nil] at hbb
  refine wpAny_call (codeAny_mono (F.run X.A X.stack s1 H1 ⟨us, []⟩ us vs Q (E σ) hr I1.env0 hbb r q) fun rr s' hq => ?_)
  match rr, hq with
  | .error e, hq => exact hx σ pins H1 s1 e s' I1 hq
  | .ok (.ret u), hq => exact I1.after hq
  | .ok .next, hq => exact False.elim hq
  | .ok .brk, hq => exact False.elim hq
  | .ok .cont, hq => exact False.elim hq
end
/-- a def whose body keeps the promise -/
theorem fnD_of {CX : CXT} {P : Program} {w : World} {K : PySem.W.Frag} {mg : Str → Option Value} {base : Heap} {n : Nat} {f : Addr} {name qual : Str} {params : Arguments} {body : List Stmt} {scope : Scope} {dV kV doc pm cdv ct oc : Value} {an od : Option Addr}
    {osl : Array (Option Value)} {N ps : List Str} {sp : Sp} (lk : K.lookup f = some ⟨oc, od, .func (PySem.W.fnOf name qual params body scope dV kV doc pm an cdv ct), osl⟩) (hcd : PySem.W.codeIn K cdv qual = true) (S : FnScope N ps scope)
    (len : ∀ vs H Q E, sp vs H Q E → vs.length = ps.length)
    (hbody : ∀ (A : Around) (outer : List PySem.Env) (s : Shared) (H : Hp) (vs : List V) (Q : VK) (E : XK), RoomD n (A.deeper (envOfC qual scope s.heap.objs.size f cdv)) → sp vs H Q E →
      ∃ t, PSs (cxOf CX P w K mg base N qual scope f cdv A outer s H E) body t ∧ t { nx := fun _ H' => Q .non H', rt := Q } (start N vs) H) :
    FnD P w K mg base CX (n + 1) f (PySem.W.fnOf name qual params body scope dV kV doc pm an cdv ct) ps sp := by
  refine ⟨len, fun A outer s H args us vs Q E hr e0 hb r hsp => ?_⟩
  have keeps : ∀ b o, base.get? b = some o → s.heap.get? b = some o := fun b o e => (e0.bs b o e).1
  have KX : K.In s.heap := e0.mod.kin.keeps fun b o e => keeps b o e
  have lim : s.heap.NoLimit := e0.mod.nolimit.keeps fun b o e => keeps b o e
  refine codeAny_call_function (by have := hr.dp; omega) (KX _ _ lk) rfl S.co S.gen rfl (PySem.W.codeRec_of KX hcd) (hb _ _ _ _ ?_)
  refine wpAny_newFunctionEnv_cells S.kind (fun y hy => ?_) fun env he s1 x => ?_
  · rcases S.par y.1 (List.of_mem_zip (show (y.1, y.2) ∈ ps.zip us from hy)).1 with q | q
    · exact .inl q
    · exact .inr ⟨q, PySem.W.cellsFrom_some _ _ _ (.inl q)⟩
  · subst he
    obtain ⟨t, ht, hq⟩ := hbody A outer s H vs Q E (hr.deeper _) hsp
    have I : Inv (cxOf CX P w K mg base N qual scope f cdv A outer s H E) [] (start N vs) H s1 := inv_start S hr.hd e0 (len _ _ _ _ hsp) r x
    refine ⟨lim.keeps x.toInCall.keep, codeAny_func (wpAny_mono (ht.run [] s1 (start N vs) H _ I hq) (fun fl s' hs => ?_) fun e s' hs => hs)⟩
    match fl, hs with
    | .ret u, ⟨v, σ', H', J, rv, q⟩ => exact ⟨v, H', J.os, J.bare, J.base, J.hok, rv, q⟩
    | .next, ⟨σ', H', J, q⟩ => exact ⟨V.non, H', J.os, J.bare, J.base, J.hok, rfl, q⟩
    | .brk, ⟨_, _, _, q⟩ => exact False.elim q
    | .cont, ⟨_, _, _, q⟩ => exact False.elim q
end KS

set_option Elab.async false
set_option linter.all false
set_option maxRecDepth 100000
namespace KS
open PySem L2

/-- an instance's fields: which, what kind -/
structure KeyOk (c : Nat) (fs : List (Nat × SV)) : Prop where
  nd : (fs.map (·.1)).Nodup
  lt : ∀ q, q ∈ fs → q.1 < 11
  l3 : c = 3 → fs.map (·.1) = [9, 10]
  n3 : c ≠ 3 → ∀ q, q ∈ fs → q.1 < 9
/-- the class of the word stands at C -/
def IsCls (K : PySem.W.Frag) (c : Nat) (C : Addr) : Prop := PySem.W.nsIn K mainGlobals (clsNm c) = some (some (.ref C))
theorem IsCls.inj {K : PySem.W.Frag} {c : Nat} {C D : Addr} (h : IsCls K c C) (g : IsCls K c D) : C = D := by
  unfold IsCls at h g
  rw [h] at g
  cases g
  rfl
/-- an instance (or, of the word 3, a list) with these things in its fields -/
def ObAt (K : PySem.W.Frag) (c : Nat) (o : Option HO) (hs : List (Str × V)) : Prop := (c = 3 ∧ o = some (.lst (hs.map (·.2)))) ∨ (c ≠ 3 ∧ ∃ C dx, IsCls K c C ∧ o = some (.ins C dx hs))
/-- the fields' things; the own ones stand at the cells L -/
def FG (K : PySem.W.Frag) (H F : Hp) : List (Nat × SV) → List (Str × V) → List (Addr × Nat) → Prop
  | [], [], [] => True
  | (f, .dat d) :: fs, (x, v) :: hs, L => x = fldNm f ∧ Rep K F d v ∧ FG K H F fs hs L
  | (f, .ol ds) :: fs, (x, v) :: hs, L => x = fldNm f ∧ ∃ q xs L', L = (q, f + 1) :: L' ∧ v = .ref q ∧ H q = some (.lst xs) ∧ RepAll K F ds xs ∧ FG K H F fs hs L'
  | (f, .od ds) :: fs, (x, v) :: hs, L => x = fldNm f ∧ ∃ q xs L', L = (q, f + 1) :: L' ∧ v = .ref q ∧ H q = some (.dK xs) ∧ RepKV K F ds xs ∧ FG K H F fs hs L'
  | _, _, _ => False
/-- what an own thing holds; it stands at the cells L -/
def OG (K : PySem.W.Frag) (H F : Hp) (p : Addr) : SV → List (Addr × Nat) → Prop
  | .ol ds, L => L = [(p, 0)] ∧ ∃ xs, H p = some (.lst xs) ∧ RepAll K F ds xs
  | .od kvs, L => L = [(p, 0)] ∧ ∃ vs, H p = some (.dK vs) ∧ RepKV K F kvs vs
  | .ob c fs, L => ∃ hs L', L = (p, 0) :: L' ∧ KeyOk c fs ∧ ObAt K c (H p) hs ∧ FG K H F fs hs L'
  | _, _ => False
section
variable {K : PySem.W.Frag} {H H' F F' : Hp} {p : Addr}
theorem FG.moveW (rd : RdW F F') : ∀ {fs : List (Nat × SV)} {hs : List (Str × V)} {L : List (Addr × Nat)}, (∀ q, q ∈ L → H' q.1 = H q.1) → FG K H F fs hs L → FG K H' F' fs hs L
  | [], [], [], _, _ => trivial
  | [], [], _ :: _, _, h => h.elim
  | [], _ :: _, _, _, h => h.elim
  | (f, .dat d) :: fs, [], _, _, h => h.elim
  | (f, .ol d) :: fs, [], _, _, h => h.elim
  | (f, .od d) :: fs, [], _, _, h => h.elim
  | (f, .dead) :: fs, [], _, _, h => h.elim
  | (f, .ob _ _) :: fs, [], _, _, h => h.elim
  | (f, .dead) :: fs, _ :: _, _, _, h => h.elim
  | (f, .ob _ _) :: fs, _ :: _, _, _, h => h.elim
  | (f, .dat d) :: fs, (x, v) :: hs, L, e, h => by
    obtain ⟨h1, h2, h3⟩ := h
    exact ⟨h1, Rep.monoW rd _ _ h2, FG.moveW rd e h3⟩
  | (f, .ol ds) :: fs, (x, v) :: hs, L, e, h => by
    obtain ⟨h1, q, xs, L', rfl, h2, h3, h4, h5⟩ := h
    exact ⟨h1, q, xs, L', rfl, h2, (e _ (List.mem_cons_self ..)).trans h3, RepAll.monoW rd _ _ h4, FG.moveW rd (fun q hq => e q (List.mem_cons_of_mem _ hq)) h5⟩
  | (f, .od ds) :: fs, (x, v) :: hs, L, e, h => by
    obtain ⟨h1, q, xs, L', rfl, h2, h3, h4, h5⟩ := h
    exact ⟨h1, q, xs, L', rfl, h2, (e _ (List.mem_cons_self ..)).trans h3, RepKV.monoW rd _ _ h4, FG.moveW rd (fun q hq => e q (List.mem_cons_of_mem _ hq)) h5⟩
theorem OG.moveW (rd : RdW F F') {sv : SV} {L : List (Addr × Nat)} (e : ∀ q, q ∈ L → H' q.1 = H q.1) (h : OG K H F p sv L) : OG K H' F' p sv L := by
  cases sv with
  | ol ds =>
    obtain ⟨rfl, xs, h1, h2⟩ := h
    exact ⟨rfl, xs, (e _ (List.mem_cons_self ..)).trans h1, RepAll.monoW rd _ _ h2⟩
  | od ds =>
    obtain ⟨rfl, xs, h1, h2⟩ := h
    exact ⟨rfl, xs, (e _ (List.mem_cons_self ..)).trans h1, RepKV.monoW rd _ _ h2⟩
  | ob c fs =>
    obtain ⟨hs, L', rfl, h1, h2, h3⟩ := h
    refine ⟨hs, L', rfl, h1, ?_, h3.moveW rd fun q hq => e q (List.mem_cons_of_mem _ hq)⟩
    rw [e _ (List.mem_cons_self ..)]
    exact h2
  | _ => exact h.elim
theorem OG.move (rd : RdLe F F') {sv : SV} {L : List (Addr × Nat)} (e : ∀ q, q ∈ L → H' q.1 = H q.1) (h : OG K H F p sv L) : OG K H' F' p sv L := h.moveW rd.w e
theorem FG.move (rd : RdLe F F') {fs : List (Nat × SV)} {hs : List (Str × V)} {L : List (Addr × Nat)} (e : ∀ q, q ∈ L → H' q.1 = H q.1) (h : FG K H F fs hs L) : FG K H' F' fs hs L := FG.moveW rd.w e h
theorem OG.head {sv : SV} {L : List (Addr × Nat)} (h : OG K H F p sv L) : (p, 0) ∈ L := by
  cases sv with
  | ol ds => rw [h.1]; exact List.mem_cons_self ..
  | od ds => rw [h.1]; exact List.mem_cons_self ..
  | ob c fs => obtain ⟨hs, L', rfl, _⟩ := h; exact List.mem_cons_self ..
  | _ => exact h.elim
theorem OG.own {sv : SV} {L : List (Addr × Nat)} (h : OG K H F p sv L) : sv.own = true := by
  cases sv with
  | ol ds => rfl
  | od ds => rfl
  | ob c fs => rfl
  | _ => exact h.elim
end
/-- what the i-th name holds, as it stands -/
def OAt (K : PySem.W.Frag) (H : Hp) (lab : Lab) (i : Nat) : SV → V → Prop
  | .dead, _ => True
  | .dat d, v => Rep K (FH H lab) d v
  | .ol ds, v => ∃ p xs, v = .ref p ∧ lab p = some (.loc i 0) ∧ H p = some (.lst xs) ∧ RepAll K (FH H lab) ds xs
  | .od kvs, v => ∃ p vs, v = .ref p ∧ lab p = some (.loc i 0) ∧ H p = some (.dK vs) ∧ RepKV K (FH H lab) kvs vs
  | .ob c fs, v => ∃ p L, v = .ref p ∧ OG K H (FH H lab) p (.ob c fs) L ∧ ∀ q, q ∈ L → lab q.1 = some (.loc i q.2)
theorem OAt.og {K : PySem.W.Frag} {H : Hp} {lab : Lab} {i : Nat} {sv : SV} {v : V} (h : OAt K H lab i sv v) (o : sv.own = true) : ∃ p L, v = .ref p ∧ OG K H (FH H lab) p sv L ∧ ∀ q, q ∈ L → lab q.1 = some (.loc i q.2) := by
  cases sv with
  | ol ds =>
    obtain ⟨p, xs, e1, e2, e3, e4⟩ := h
    exact ⟨p, [(p, 0)], e1, ⟨rfl, xs, e3, e4⟩, fun q hq => by rcases List.mem_singleton.mp hq with rfl; exact e2⟩
  | od ds =>
    obtain ⟨p, xs, e1, e2, e3, e4⟩ := h
    exact ⟨p, [(p, 0)], e1, ⟨rfl, xs, e3, e4⟩, fun q hq => by rcases List.mem_singleton.mp hq with rfl; exact e2⟩
  | ob _ _ => exact h
  | _ => cases o
theorem OG.oat {K : PySem.W.Frag} {H : Hp} {lab : Lab} {i : Nat} {sv : SV} {p : Addr} {L : List (Addr × Nat)} (h : OG K H (FH H lab) p sv L) (l : ∀ q, q ∈ L → lab q.1 = some (.loc i q.2)) : OAt K H lab i sv (.ref p) := by
  cases sv with
  | ol ds =>
    obtain ⟨rfl, xs, e3, e4⟩ := h
    exact ⟨p, xs, rfl, l _ (List.mem_cons_self ..), e3, e4⟩
  | od ds =>
    obtain ⟨rfl, xs, e3, e4⟩ := h
    exact ⟨p, xs, rfl, l _ (List.mem_cons_self ..), e3, e4⟩
  | ob c fs => exact ⟨p, L, rfl, h, l⟩
  | _ => exact h.elim
structure EnvOk (K : PySem.W.Frag) (σ : St) (H : Hp) (lab : Lab) (ρ : Env) : Prop where
  lok : LabOk lab H
  tf : TupFree lab H
  len : ρ.length = σ.length
  at_ : ∀ i sv, ρ[i]? = some sv → sv ≠ .dead → ∃ v, σ[i]? = some (some v) ∧ OAt K H lab i sv v
section
variable {K : PySem.W.Frag} {σ : St} {H H' : Hp} {lab : Lab} {ρ : Env} {t : Nat → Bool}
theorem OAt.step (s : Stp t lab H H') {i : Nat} (ht : t i = false) {sv : SV} {v : V} (h : OAt K H lab i sv v) : OAt K H' lab i sv v := by
  cases sv with
  | dead => trivial
  | dat d => exact Rep.mono s.rd _ _ h
  | ol ds =>
    obtain ⟨p, xs, e1, e2, e3, e4⟩ := h
    exact ⟨p, xs, e1, e2, (s.keep p i 0 e2 ht).trans e3, RepAll.mono s.rd _ _ e4⟩
  | od ds =>
    obtain ⟨p, xs, e1, e2, e3, e4⟩ := h
    exact ⟨p, xs, e1, e2, (s.keep p i 0 e2 ht).trans e3, RepKV.mono s.rd _ _ e4⟩
  | ob _ _ =>
    obtain ⟨p, L, e1, e2, e3⟩ := h
    exact ⟨p, L, e1, e2.move s.rd fun q hq => s.keep q.1 i q.2 (e3 q hq) ht, e3⟩
theorem TupFree.step (s : Stp (fun _ => false) lab H H') (h : TupFree lab H) : TupFree lab H' := fun a l xs e r => by
  have : H' a = H a := by
    cases l with
    | loc i j => exact s.keep a i j e rfl
    | far => exact s.far a e
  unfold Rd at r
  rw [this] at r
  exact h a l xs e r
theorem EnvOk.step (E : EnvOk K σ H lab ρ) (s : Stp (fun _ => false) lab H H') : EnvOk K σ H' lab ρ :=
  ⟨s.lab E.lok, E.tf.step s, E.len, fun i sv e n => let ⟨v, h1, h2⟩ := E.at_ i sv e n; ⟨v, h1, h2.step s rfl⟩⟩
theorem EnvOk.nw (E : EnvOk K σ H lab ρ) (n : Nw H H') : EnvOk K σ H' lab ρ := E.step (n.stp E.lok)
theorem nw_stp (E : EnvOk K σ H lab ρ) (n : Nw H H') : Stp t lab H H' := n.stp E.lok
/-- the name i is given data that stays -/
theorem EnvOk.set (E : EnvOk K σ H lab ρ) {i : Nat} {d : D} {v : V} (r : Rep K (FH H lab) d v) (hi : i < ρ.length) : EnvOk K (σ.set i (some v)) H lab (ρ.set i (.dat d)) := by
  refine ⟨E.lok, E.tf, by rw [List.length_set, List.length_set, E.len], fun j sv e n => ?_⟩
  by_cases hj : j = i
  · subst hj
    rw [List.getElem?_set_self hi] at e
    cases e
    exact ⟨v, by rw [List.getElem?_set_self (by rw [← E.len]; exact hi)], r⟩
  · rw [List.getElem?_set_ne (Ne.symm hj)] at e
    obtain ⟨w, h1, h2⟩ := E.at_ j sv e n
    exact ⟨w, by rw [List.getElem?_set_ne (Ne.symm hj)]; exact h1, h2⟩
theorem EnvOk.kill (E : EnvOk K σ H lab ρ) (i : Nat) (o : Option V) : EnvOk K (σ.set i o) H lab (ρ.set i .dead) := by
  refine ⟨E.lok, E.tf, by rw [List.length_set, List.length_set, E.len], fun j sv e n => ?_⟩
  by_cases hj : j = i
  · subst hj
    by_cases hi : j < ρ.length
    · rw [List.getElem?_set_self hi] at e
      cases e
      exact (n rfl).elim
    · rw [List.getElem?_eq_none (by rw [List.length_set]; omega)] at e; cases e
  · rw [List.getElem?_set_ne (Ne.symm hj)] at e
    obtain ⟨w, h1, h2⟩ := E.at_ j sv e n
    exact ⟨w, by rw [List.getElem?_set_ne (Ne.symm hj)]; exact h1, h2⟩
/-- what is read of a place: frozen data, or an own thing that is looked at -/
def RepL (K : PySem.W.Frag) (H : Hp) (lab : Lab) (ρ : Env) (m : E) (d : D) (v : V) : Prop :=
  Rep K (FH H lab) d v ∨ ∃ p a j, m.place = some p ∧ isOwn ρ p = true ∧ v = .ref a ∧ lab a = some (.loc p.1 j) ∧ RepT K H (FH H lab) d v
theorem RepL.top {m : E} {d : D} {v : V} (h : RepL K H lab ρ m d v) : RepT K H (FH H lab) d v := by
  rcases h with h | ⟨p, a, j, _, _, _, _, h⟩
  · exact Rep.top FH_le h
  · exact h
theorem RepT.own_step {a : Addr} {i j : Nat} (s : Stp t lab H H') (hl : lab a = some (.loc i j)) (ht : t i = false) {d : D} (h : RepT K H (FH H lab) d (.ref a)) : RepT K H' (FH H' lab) d (.ref a) := by
  have e := s.keep a i j hl ht
  cases d with
  | tup ds =>
    obtain ⟨p, xs, ep, e2, e3⟩ := h
    cases ep
    refine ⟨a, xs, rfl, ?_, RepAll.mono s.rd _ _ e3⟩
    rcases e2 with e2 | e2
    · left; unfold Rd at e2 ⊢; rw [e]; exact e2
    · exact .inr e2
  | lst ds =>
    obtain ⟨p, xs, ep, e2, e3⟩ := h
    cases ep
    exact ⟨a, xs, rfl, e.trans e2, RepAll.mono s.rd _ _ e3⟩
  | dic ds =>
    obtain ⟨p, xs, ep, e2, e3⟩ := h
    cases ep
    refine ⟨a, xs, rfl, ?_, RepKV.mono s.rd _ _ e3⟩
    unfold Rd at e2 ⊢; rw [e]; exact e2
  | scr ns =>
    obtain ⟨p, ep, e2⟩ := h
    cases ep
    refine ⟨a, rfl, ?_⟩
    rcases e2 with e2 | e2
    · left; unfold Rd at e2 ⊢; rw [e]; exact e2
    · exact .inr e2
  | non => exact Rep.mono s.rd _ _ (show Rep K _ .non _ from h)
  | bl b => exact Rep.mono s.rd _ _ (show Rep K _ (.bl b) _ from h)
  | int b => exact Rep.mono s.rd _ _ (show Rep K _ (.int b) _ from h)
  | str b => exact Rep.mono s.rd _ _ (show Rep K _ (.str b) _ from h)
  | exc c l => exact Rep.mono s.rd _ _ (show Rep K _ (.exc c l) _ from h)
/-- an operand stays while a later one is reckoned that doesn't touch it -/
theorem RepL.after {m : E} {d : D} {v : V} {t' : Nat → Bool} (h : RepL K H lab ρ m d v) (hb : hitB ρ m t' = false) (s : Stp t lab H H') (ht : ∀ i, t i = true → t' i = true) : RepT K H' (FH H' lab) d v := by
  rcases h with h | ⟨p, a, j, h1, h2, rfl, h4, h⟩
  · exact Rep.top FH_le (Rep.mono s.rd _ _ h)
  · refine h.own_step s h4 ?_
    unfold hitB at hb
    rw [h1] at hb
    simp only [h2, Bool.true_and] at hb
    cases q : t p.1 with
    | false => rfl
    | true => rw [ht _ q] at hb; cases hb
end

/-! ### what a def of the text promises -/
def AOk (K : PySem.W.Frag) (H : Hp) (lab : Lab) : Nat → List SV → List V → Prop
  | _, [], [] => True
  | i, sv :: as, v :: vs => OAt K H lab i sv v ∧ AOk K H lab (i + 1) as vs
  | _, _, _ => False
def OutsOk (K : PySem.W.Frag) (H : Hp) (lab : Lab) : List Bool → Nat → List SV → List V → Prop
  | [], _, [], [] => True
  | false :: ms, i, us, _ :: vs => OutsOk K H lab ms (i + 1) us vs
  | true :: ms, i, u :: us, v :: vs => OAt K H lab i u v ∧ u.own = true ∧ OutsOk K H lab ms (i + 1) us vs
  | _, _, _, _ => False
/-- an error of the class that the word tells, with what it bears -/
def XOk (K : PySem.W.Frag) (CT : Ct) (c : Nat) (pl : List D) (cls : Value) (dx : Option Addr) (H : Hp) (lab : Lab) : Prop :=
  ∃ C, IsX K c C ∧ cls = .ref C ∧ match pl, dx with
    | [], none => True
    | [d], some x => d.scalar = true ∧ ∃ v, H x = some (.xd [("name", v)]) ∧ Rep K (FH H lab) d v
    | _, _ => False
def spF (K : PySem.W.Frag) (CT : Ct) (ms : List Bool) (R : List SV → RF) : Sp := fun vs H Q E => ∃ (lab : Lab) (as : List SV), LabOk lab H ∧ TupFree lab H ∧ AOk K H lab 0 as vs ∧ fitA ms as = true ∧
  (∀ a i j, lab a = some (.loc i j) → ms[i]? = some true) ∧
  match R as with
  | .ok r us => ∀ v H', Stp (fun i => decide (ms[i]? = some true)) lab H H' → LabOk lab H' → TupFree lab H' → Rep K (FH H' lab) r v → OutsOk K H' lab ms 0 us vs → Q v H'
  | .exc c pl => ∀ cls dx H', Stp (fun i => decide (ms[i]? = some true)) lab H H' → XOk K CT c pl cls dx H' lab → E cls dx H'
  | .stuck => False

/-! ### where a text stands -/
/-- the names of the written scope, in the scope that runs -/
def ScR (sc sc' : Scope) : Prop := ∀ x k, sc.names.lookup x = some k → (k ≠ .free → sc'.names.lookup x = some k) ∧ (k = .free → sc'.names.lookup x = some .free ∨ sc'.names.lookup x = some .cell)
def bltNames : List Str := ["len", "tuple", "list", "dict", "int", "all", "any", "max", "min", "range", "isinstance", "bool", "str", "zip", "sum", "ValueError"]
def bmVE : List Value := [.type "ValueError", .type "Exception", .type "BaseException", .type "object"]
/-- what the top has written of the error classes -/
structure XFacts (xc : Nat → Bool) (K : PySem.W.Frag) (mg : Str → Option Value) : Prop where
  has : ∀ c C, IsX K c C → xc c = true
  cl : ∀ c, (c < 5 ∧ xc c = true) → ∃ C, IsX K c C ∧ mg (excNm c) = some (.ref C) ∧ PySem.W.keepIn K (.ref C) = true ∧ ExcC K C ∧ PySem.W.typeIn K (.ref C) = some (.type "type") ∧ (c ≠ 3 → PySem.W.excIn K C bmVE "ValueError.__new__" = true)
  sub : ∀ c d C D, IsX K c C → IsX K d D → PySem.W.kitCls K (.ref C) (.ref D) = some (excSub c d)
  ve : ∀ c C, IsX K c C → PySem.W.kitCls K (.ref C) (.type "ValueError") = some true
  nn : ∀ d D, IsX K d D → PySem.W.kitCls K (.type "NoneType") (.ref D) = some false
/-- what is wished of an error that leaves -/
def Tk (z : Ct) (X : Cx) (W : WX) : Prop := match z with
  | true => L2N.Takes X W
  | false => L2.Takes X W
def CXM (z : Ct) (P : Program) (w : World) : CXT := match z with
  | true => L2N.CX P w
  | false => L2.CX P w
theorem passM {z : Ct} {X : Cx} {W : WX} (tk : Tk z X W) (σ : L2.St) : PassesAt (CXM z X.prog X.w) X σ (WE W σ) := by
  cases z with
  | true => exact L2N.passAt tk σ
  | false => exact L2.passAt tk σ
structure Cok (X : Cx) (T : Tb) (CT : Ct) (G : Gm) (N : List Str) (sc : Scope) : Prop where
  nn : X.N = N
  nd : N.Nodup
  calm : X.calm = true
  kf : X.env.scope.kind = .function
  room : X.A.units + 200 < cLine
  scr : ScR sc X.env.scope
  st : ∀ x, locB sc x = true → X.fn x = true ∨ X.env.scope.names.lookup x = some .local
  fn : ∀ f x, T.fn f = some x → ∃ (a : Addr) (fd : FuncData) (ps : List Str) (k : Nat), X.mg x = some (.ref a) ∧ FnD X.prog X.w X.K X.mg X.base (CXM CT X.prog X.w) k a fd ps (spF X.K CT (T.modes f) (G f)) ∧ RoomD k X.A ∧ PySem.W.keepIn X.K (.ref a) = true ∧ Binds X.K fd ps []
  gl : ∀ g x d, T.gl g = some x → glD g = some d → ∃ u v, X.mg x = some u ∧ RelV v u ∧ Rep X.K (fun _ => none) d v
  bl : ∀ x ∈ bltNames, X.mg x = none
  xs : T.xs = true → XFacts T.xc X.K X.mg
  tr : T.tr = true → CT = false
section
variable {X : Cx} {T : Tb} {CT : Ct} {G : Gm} {N : List Str} {sc : Scope}
theorem Cok.vis (C : Cok X T CT G N sc) {x : Str} (h : visB sc x = true) : Vis X.env.scope x := by
  unfold visB at h
  split at h
  · rename_i e; exact .inl ((C.scr x _ e).1 (by decide))
  · rename_i e; exact .inr (.inl ((C.scr x _ e).1 (by decide)))
  · rename_i e
    rcases (C.scr x _ e).2 rfl with q | q
    · exact .inr (.inr q)
    · exact .inr (.inl q)
  · cases h
theorem Cok.loc (C : Cok X T CT G N sc) {x : Str} (h : locB sc x = true) : Loc X.env.scope x := by
  unfold locB at h
  split at h
  · rename_i e; exact .inl ((C.scr x _ e).1 (by decide))
  · rename_i e; exact .inr ((C.scr x _ e).1 (by decide))
  · cases h
theorem Cok.glo (C : Cok X T CT G N sc) {x : Str} (h : glB sc x = true) : Gl X x := by
  unfold glB at h
  split at h
  · rename_i e; exact (C.scr x _ e).1 (by decide)
  · cases h
theorem dbg_of {x : Str} (h : dbgB x = true) : (x == ("__debug__" : Str)) = false ∧ (x == ("__classdict__" : Str)) = false := by
  unfold dbgB at h
  rw [Bool.and_eq_true] at h
  exact ⟨by simpa using h.1, by simpa using h.2⟩
theorem Cok.name (C : Cok X T CT G N sc) {i : Nat} {x : Str} {pos : Pos} (h : nameB N sc i x = true) : PE X (.Name x pos) (tVar i) := by
  unfold nameB at h
  rw [Bool.and_eq_true, Bool.and_eq_true, decide_eq_true_eq] at h
  obtain ⟨d1, d2⟩ := dbg_of h.2
  exact pe_var (by rw [C.nn]; exact h.1.1) (C.vis h.1.2) d1 d2
theorem Cok.slot (C : Cok X T CT G N sc) {i : Nat} {x : Str} {pos : Pos} (h : slotB N sc i x = true) : PG X (.Name x pos) (gName i) := by
  unfold slotB at h
  rw [Bool.and_eq_true, Bool.and_eq_true, decide_eq_true_eq] at h
  exact pg_name (by rw [C.nn]; exact C.nd) (by rw [C.nn]; exact h.1.1) (C.loc h.1.2) (C.st x h.1.2)
end

/-! ### the soundness of an expression, a test -/
section
variable (X : Cx) (CT : Ct) (G : Gm)
def EvS (W : WX) (m : E) (t : TE) : Prop := ∀ (x b : Bool) (σ : St) (H : Hp) (lab : Lab) (ρ : Env) (k : D → Env → T) (Ψ : RF → Prop) (Q : VK), ¬ Ψ .stuck → EnvOk X.K σ H lab ρ →
  (∀ v H' d ρ', Stp m.tch lab H H' → EnvOk X.K σ H' lab ρ' → RepL X.K H' lab ρ' m d v → (b = false → Rep X.K (FH H' lab) d v) → Ψ ((k d ρ').den G) → Q v H') →
  (x = true → ∀ c pl cls dx H', Stp m.tch lab H H' → XOk X.K CT c pl cls dx H' lab → Ψ (.exc c pl) → W cls dx σ H') →
  Ψ ((evK x b m ρ k).den G) → t σ H Q
def SE (e : Expr) (m : E) : Prop := ∀ W, Tk CT X W → ∃ t, PE X e t ∧ EvS X CT G W m t
def TsS (W : WX) (m : E) (t : TT) : Prop := ∀ (x b : Bool) (σ : St) (H : Hp) (lab : Lab) (ρ : Env) (k : D → Env → T) (Ψ : RF → Prop) (Q : Bool → Hp → Prop), ¬ Ψ .stuck → EnvOk X.K σ H lab ρ →
  (∀ d ρ', Ψ ((k d ρ').den G) → ∃ c, truth d = some c) →
  (∀ c H' d ρ', Stp m.tch lab H H' → EnvOk X.K σ H' lab ρ' → truth d = some c → Ψ ((k d ρ').den G) → Q c H') →
  (x = true → ∀ c pl cls dx H', Stp m.tch lab H H' → XOk X.K CT c pl cls dx H' lab → Ψ (.exc c pl) → W cls dx σ H') →
  Ψ ((evK x b m ρ k).den G) → t σ H Q
def ST (e : Expr) (m : E) : Prop := ∀ W, Tk CT X W → ∃ t, PT X e t ∧ (boolB e = true → PW X e t) ∧ TsS X CT G W m t
def EsS (W : WX) (ms : Es) (t : TA) : Prop := ∀ (x : Bool) (σ : St) (H : Hp) (lab : Lab) (ρ : Env) (k : List D → Env → T) (Ψ : RF → Prop) (Q : List V → Hp → Prop), ¬ Ψ .stuck → EnvOk X.K σ H lab ρ →
  (∀ vs H' ds ρ', Stp ms.tch lab H H' → EnvOk X.K σ H' lab ρ' → RepAll X.K (FH H' lab) ds vs → Ψ ((k ds ρ').den G) → Q vs H') →
  (x = true → ∀ c pl cls dx H', Stp ms.tch lab H H' → XOk X.K CT c pl cls dx H' lab → Ψ (.exc c pl) → W cls dx σ H') →
  Ψ ((evsK x ms ρ k).den G) → t σ H Q
def SEs (es : List Expr) (ms : Es) : Prop := ∀ W, Tk CT X W → ∃ t, PA X es t ∧ EsS X CT G W ms t
end
theorem den_tri {G : Gm} {Ψ : RF → Prop} (hs : ¬ Ψ .stuck) {o : Option Bool} {t f : Unit → T} (h : Ψ ((T.tri o t f).den G)) : ∃ b, o = some b ∧ Ψ (((if b then t () else f ()) : T).den G) := by
  cases o with
  | none => exact (hs h).elim
  | some b => exact ⟨b, rfl, by cases b <;> exact h⟩
theorem den_ofK {G : Gm} {Ψ : RF → Prop} (hs : ¬ Ψ .stuck) {α : Type} {o : Option α} {ρ : Env} {k : α → Env → T} (h : Ψ ((ofK o ρ k).den G)) : ∃ a, o = some a ∧ Ψ ((k a ρ).den G) := by
  cases o with
  | none => exact (hs h).elim
  | some a => exact ⟨a, rfl, h⟩
theorem den_optK {G : Gm} {Ψ : RF → Prop} (hs : ¬ Ψ .stuck) {α : Type} {o : Option α} {k : α → T} (h : Ψ ((T.opt o k).den G)) : ∃ a, o = some a ∧ Ψ ((k a).den G) := by
  cases o with
  | none => exact (hs h).elim
  | some a => exact ⟨a, rfl, h⟩
theorem den_unK {G : Gm} {Ψ : RF → Prop} (hs : ¬ Ψ .stuck) {b : Bool} {k : Unit → T} (h : Ψ ((T.un b k).den G)) : b = false ∧ Ψ ((k ()).den G) := by
  cases b with
  | true => exact (hs h).elim
  | false => exact ⟨rfl, h⟩
end KS

set_option Elab.async false
set_option linter.all false
set_option maxRecDepth 100000
namespace KS
open PySem L2
section
variable {X : Cx} {T : Tb} {CT : Ct} {G : Gm} {N : List Str} {sc : Scope}

theorem pe_never {e : Expr} : PE X e (fun _ _ _ => False) := ⟨fun _ _ _ _ _ _ h => h.elim⟩
theorem se_var (C : Cok X T CT G N sc) {i : Nat} {x : Str} {pos : Pos} (h : nameB N sc i x = true) : SE X CT G (.Name x pos) (.var i) := by
  intro W tk
  refine ⟨tVar i, C.name h, fun xx b σ H lab ρ k Ψ Q hs En hq hx hp => ?_⟩
  obtain ⟨d, hd, hp⟩ := den_ofK hs hp
  have hd : (match ρ[i]? with
    | some (.dat d) => some d
    | some (.ol xs) => if b then some (.lst xs) else none
    | some (.od kvs) => if b then some (.dic kvs) else none
    | _ => none) = some d := hd
  cases es : ρ[i]? with
  | none => rw [es] at hd; cases hd
  | some sv =>
    rw [es] at hd
    have ow : ∀ sv, ρ[i]? = some sv → isOwn ρ (i, none) = sv.own := fun sv e => by unfold isOwn getP; simp only [e]
    cases sv with
    | dead => cases hd
    | ob _ _ => cases hd
    | dat d' =>
      cases hd
      obtain ⟨v, e1, e2⟩ := En.at_ i _ es (fun z => nomatch z)
      exact ⟨v, e1, hq v H d ρ (Stp.refl _ _ _) En (.inl e2) (fun _ => e2) hp⟩
    | ol ds =>
      obtain ⟨v, e1, p, vs, rfl, e3, e4, e5⟩ := En.at_ i _ es (fun z => nomatch z)
      cases b with
      | false => cases hd
      | true =>
        cases hd
        exact ⟨_, e1, hq _ H (.lst ds) ρ (Stp.refl _ _ _) En (.inr ⟨(i, none), p, 0, rfl, ow _ es, rfl, e3, (⟨p, vs, rfl, e4, e5⟩ : RepT X.K H (FH H lab) (.lst ds) (.ref p))⟩) (fun z => nomatch z) hp⟩
    | od ds =>
      obtain ⟨v, e1, p, vs, rfl, e3, e4, e5⟩ := En.at_ i _ es (fun z => nomatch z)
      cases b with
      | false => cases hd
      | true =>
        cases hd
        exact ⟨_, e1, hq _ H (.dic ds) ρ (Stp.refl _ _ _) En (.inr ⟨(i, none), p, 0, rfl, ow _ es, rfl, e3, (⟨p, vs, rfl, .inl e4, e5⟩ : RepT X.K H (FH H lab) (.dic ds) (.ref p))⟩) (fun z => nomatch z) hp⟩
/-- a constant -/
theorem se_c {e : Expr} {m : E} {d : D} {v : V} (he : PE X e (tC v)) (r : ∀ F, Rep X.K F d v) (hm : ∀ x b ρ k, evK x b m ρ k = k d ρ) : SE X CT G e m := by
  intro W tk
  refine ⟨tC v, he, fun xx b σ H lab ρ k Ψ Q hs En hq hx hp => ?_⟩
  rw [hm] at hp
  exact hq v H d ρ (Stp.refl _ _ _) En (.inl (r _)) (fun _ => r _) hp
theorem rep_none {K : PySem.W.Frag} {F : Hp} : RdLe (fun _ => none) F := ⟨fun b u _ h => (by rcases h with h | ⟨o, h⟩ <;> cases h), fun b xs _ h => (by cases h), fun b o u h => (by cases h)⟩
theorem se_glob (C : Cok X T CT G N sc) {g : Nat} {x : Str} {pos : Pos} (h1 : T.gl g = some x) (h2 : glB sc x = true) (h3 : dbgB x = true) : SE X CT G (.Name x pos) (.glob g) := by
  intro W tk
  cases e : glD g with
  | none => exact ⟨_, pe_never, fun xx b σ H lab ρ k Ψ Q hs En hq hx hp => by
      obtain ⟨d, hd, _⟩ := den_ofK (o := glD g) hs hp
      rw [e] at hd; cases hd⟩
  | some d =>
    obtain ⟨u, v, m, r, rp⟩ := C.gl g x d h1 e
    refine ⟨tC v, pe_glob (C.glo h2) m r (dbg_of h3).1, fun xx b σ H lab ρ k Ψ Q hs En hq hx hp => ?_⟩
    obtain ⟨d', hd, hp⟩ := den_ofK (o := glD g) hs hp
    rw [e] at hd; cases hd
    have rp' := Rep.mono (rep_none (K := X.K) (F := FH H lab)) _ _ rp
    exact hq v H d ρ (Stp.refl _ _ _) En (.inl rp') (fun _ => rp') hp
theorem se_tup {es : List Expr} {ms : Es} {k0 : Nat} {pos : Pos} (h : SEs X CT G es ms) : SE X CT G (.Tuple es k0 pos) (.tup ms) := by
  intro W tk
  obtain ⟨t, ht, hv⟩ := h W tk
  refine ⟨tTup t, pe_tup ht, fun xx b σ H lab ρ k Ψ Q hs En hq hx hp => ?_⟩
  refine hv xx σ H lab ρ _ Ψ _ hs En (fun vs H1 ds ρ1 s1 E1 r1 hp1 => ?_) hx hp
  obtain ⟨d, hd, hp1⟩ := den_ofK hs hp1
  unfold shortO at hd
  split at hd
  · rename_i hl
    cases hd
    refine ⟨by rw [← r1.length, ← lim_eq]; exact hl, fun p hp' => ?_⟩
    have n := Nw.new (o := .tup vs) hp'
    have r2 := rep_tup_new E1.lok hp' r1
    exact hq _ _ _ ρ1 (s1.trans (n.stp E1.lok)) (E1.nw n) (.inl r2) (fun _ => r2) hp1
  · cases hd
theorem se_lst {es : List Expr} {ms : Es} {pos : Pos} (h : SEs X CT G es ms) : SE X CT G (.List es pos) (.lst ms) := by
  intro W tk
  obtain ⟨t, ht, hv⟩ := h W tk
  refine ⟨tLst t, pe_lst ht, fun xx b σ H lab ρ k Ψ Q hs En hq hx hp => ?_⟩
  refine hv xx σ H lab ρ _ Ψ _ hs En (fun vs H1 ds ρ1 s1 E1 r1 hp1 => ?_) hx hp
  obtain ⟨d, hd, hp1⟩ := den_ofK hs hp1
  unfold shortO at hd
  split at hd
  · rename_i hl
    cases hd
    refine ⟨by rw [← r1.length, ← lim_eq]; exact hl, fun p hp' => ?_⟩
    have n := Nw.new (o := .lst vs) hp'
    have r2 := rep_lst_new E1.lok hp' r1
    exact hq _ _ _ ρ1 (s1.trans (n.stp E1.lok)) (E1.nw n) (.inl r2) (fun _ => r2) hp1
  · cases hd
theorem or_l {a b : Bool} : a = true → (a || b) = true := by intro h; rw [h]; rfl
theorem or_r {a b : Bool} : b = true → (a || b) = true := by intro h; rw [h]; cases a <;> rfl
/-- two operands -/
theorem ev_two {W : WX} {a c : E} {ta tb : TE} (ha : EvS X CT G W a ta) (hc : EvS X CT G W c tb) {x : Bool} {σ : St} {H : Hp} {lab : Lab} {ρ : Env} {k : D → D → Env → KS.T} {Ψ : RF → Prop} {R : V → V → Hp → Prop} {t : Nat → Bool} (hs : ¬ Ψ .stuck) (En : EnvOk X.K σ H lab ρ)
    (ht : ∀ i, (a.tch i || c.tch i) = true → t i = true)
    (hq : ∀ v u H2 da dc ρ2, Stp t lab H H2 → EnvOk X.K σ H2 lab ρ2 → RepT X.K H2 (FH H2 lab) da v → RepT X.K H2 (FH H2 lab) dc u → Ψ ((k da dc ρ2).den G) → R v u H2)
    (hx : x = true → ∀ c pl cls dx H', Stp t lab H H' → XOk X.K CT c pl cls dx H' lab → Ψ (.exc c pl) → W cls dx σ H')
    (hp : Ψ ((evK x true a ρ fun da ρ1 => KS.T.un (hitB ρ1 a c.tch) fun _ => evK x true c ρ1 fun dc ρ2 => k da dc ρ2).den G)) : ta σ H fun v H1 => tb σ H1 fun u H2 => R v u H2 := by
  refine ha x true σ H lab ρ _ Ψ _ hs En (fun v H1 da ρ1 s1 E1 r1 _ hp1 => ?_) (fun xt c pl cls dx H' s => hx xt c pl cls dx H' (s.imp fun i h => ht i (or_l h))) hp
  obtain ⟨hb, hp1⟩ := den_unK hs hp1
  have s1' := s1.imp (t' := t) fun i h => ht i (or_l h)
  refine hc x true σ H1 lab ρ1 _ Ψ _ hs E1 (fun u H2 dc ρ2 s2 E2 r2 _ hp2 => ?_) (fun xt c pl cls dx H' s => hx xt c pl cls dx H' (s1'.trans (s.imp fun i h => ht i (or_r h)))) hp1
  exact hq v u H2 da dc ρ2 (s1'.trans (s2.imp fun i h => ht i (or_r h))) E2 (r1.after hb s2 fun i h => h) r2.top hp2
theorem behind_of {op : CmpOp} {y : Expr} (h : setB y = false) : behindInMarks op y = false := by
  cases y <;> first | rfl | cases h
theorem ev_op {W : WX} {o : Op} {a c : E} {ta tb : TE} (hu : X.A.units + 200 < cLine) (ha : EvS X CT G W a ta) (hc : EvS X CT G W c tb) : EvS X CT G W (.bin o a c) (tOp (rOp X.K o) ta tb) := by
  intro x b σ H lab ρ k Ψ Q hs En hq hx hp
  refine ev_two ha hc (t := (KS.E.bin o a c).tch) (k := fun da dc ρ2 => ofK (opD o da dc) ρ2 k) (R := fun v u H2 => rOp X.K o v u H2 Q) hs En (fun i h => h) (fun v u H2 da dc ρ2 s E2 r1 r2 hp2 => ?_) hx hp
  obtain ⟨d, hd, hp2⟩ := den_ofK hs hp2
  exact op_sound E2.lok E2.tf r1 r2 hd fun z H3 n r => hq z H3 d ρ2 (s.trans (n.stp E2.lok)) (E2.nw n) (.inl r) (fun _ => r) hp2
theorem se_bin (C : Cok X T CT G N sc) {o : Op} {op : Operator} {a c : E} {x y : Expr} {pos : Pos} (ho : binO o = some op) (ha : SE X CT G x a) (hc : SE X CT G y c) : SE X CT G (.BinOp x op y pos) (.bin o a c) := by
  intro W tk
  obtain ⟨ta, h1, h2⟩ := ha W tk
  obtain ⟨tb, h3, h4⟩ := hc W tk
  refine ⟨_, pe_op (op := op) (r := rOp X.K o) ?_ h1 h3, ev_op C.room h2 h4⟩
  have e : opF o = binaryOp op := by cases o <;> cases ho <;> rfl
  rw [← e]
  exact op_ok (by have := C.room; omega) o
theorem se_cmp (C : Cok X T CT G N sc) {o : Op} {op : CmpOp} {a c : E} {x y : Expr} {pos : Pos} (ho : cmpO o = some op) (hb : setB y = false) (ha : SE X CT G x a) (hc : SE X CT G y c) : SE X CT G (.Compare x [op] [y] pos) (.bin o a c) := by
  intro W tk
  obtain ⟨ta, h1, h2⟩ := ha W tk
  obtain ⟨tb, h3, h4⟩ := hc W tk
  refine ⟨_, pe_cmpR (op := op) (r := rOp X.K o) ?_ h1 h3 (behind_of hb), ev_op C.room h2 h4⟩
  have e : opF o = compareOp op := by cases o <;> cases ho <;> rfl
  rw [← e]
  exact op_ok (by have := C.room; omega) o
theorem cmp_bl {o : Op} {op : CmpOp} {a b d : D} (ho : cmpO o = some op) (e : opD o a b = some d) : ∃ c, d = .bl c := by
  cases o <;> first | (cases ho; done) | skip
  all_goals
    simp only [opD] at e
    first
      | (unfold dop_eq at e; split at e <;> (split at e <;> first | (cases e; done) | (cases e; exact ⟨_, rfl⟩)))
      | (unfold dop_ne at e; split at e <;> (split at e <;> first | (cases e; done) | (cases e; exact ⟨_, rfl⟩)))
      | (unfold dop_lt at e; split at e <;> cases e; exact ⟨_, rfl⟩; done)
      | (unfold dop_le at e; split at e <;> cases e; exact ⟨_, rfl⟩; done)
      | (unfold dop_gt at e; split at e <;> cases e; exact ⟨_, rfl⟩; done)
      | (unfold dop_ge at e; split at e <;> cases e; exact ⟨_, rfl⟩; done)
      | (unfold dop_isin at e; split at e <;> first | (cases e; done) | (obtain ⟨c, _, rfl⟩ := Option.map_eq_some_iff.mp e; exact ⟨_, rfl⟩))
      | (unfold dop_notin at e; split at e <;> first | (cases e; done) | (obtain ⟨c, _, rfl⟩ := Option.map_eq_some_iff.mp e; exact ⟨_, rfl⟩))
      | (unfold dop_isx at e; split at e <;> first | (cases e; done) | (cases e; exact ⟨_, rfl⟩))
      | (unfold dop_isnx at e; split at e <;> first | (cases e; done) | (cases e; exact ⟨_, rfl⟩))
theorem st_cmp (C : Cok X T CT G N sc) {o : Op} {op : CmpOp} {a c : E} {x y : Expr} {pos : Pos} (ho : cmpO o = some op) (hb : setB y = false) (ha : SE X CT G x a) (hc : SE X CT G y c) : ST X CT G (.Compare x [op] [y] pos) (.bin o a c) := by
  intro W tk
  obtain ⟨ta, h1, h2⟩ := ha W tk
  obtain ⟨tb, h3, h4⟩ := hc W tk
  have e : opF o = compareOp op := by cases o <;> cases ho <;> rfl
  refine ⟨_, pt_cmpR (op := op) (r := rOp X.K o) (by rw [← e]; exact op_ok (by have := C.room; omega) o) h1 h3 (behind_of hb), (fun z => nomatch z), fun x b σ H lab ρ k Ψ Q hs En _ hq hx hp => ?_⟩
  refine ev_two h2 h4 (t := (KS.E.bin o a c).tch) (k := fun da dc ρ2 => ofK (opD o da dc) ρ2 k) (R := fun v u H2 => rOp X.K o v u H2 fun x H' => ∃ k, x = .bl k ∧ Q k H') hs En (fun i h => h) (fun v u H2 da dc ρ2 s E2 r1 r2 hp2 => ?_) hx hp
  obtain ⟨d, hd, hp2⟩ := den_ofK hs hp2
  obtain ⟨cc, rfl⟩ := cmp_bl ho hd
  refine op_sound E2.lok E2.tf r1 r2 hd fun z H3 n r => ?_
  rw [Rep] at r
  exact ⟨cc, r, hq cc H3 _ ρ2 (s.trans (n.stp E2.lok)) (E2.nw n) rfl hp2⟩
/-- a test by its value's truth -/
theorem st_of {e : Expr} {m : E} (h : SE X CT G e m) (hb : boolB e = false) (he : ∀ whole, isTrue e X.env whole = (do let v ← whole; standAt e.pos; holding [v] (truthy v))) : ST X CT G e m := by
  intro W tk
  obtain ⟨t, h1, h2⟩ := h W tk
  refine ⟨_, pt_truth h1 he, (fun z => by rw [hb] at z; cases z), fun x b σ H lab ρ k Ψ Q hs En hk hq hx hp => ?_⟩
  refine h2 x b σ H lab ρ _ Ψ _ hs En (fun v H1 d ρ1 s1 E1 r1 _ hp1 => ?_) hx hp
  obtain ⟨c, hc⟩ := hk d ρ1 hp1
  exact ⟨c, truth_sound r1.top hc, hq c H1 d ρ1 s1 E1 hc hp1⟩
end
end KS

set_option Elab.async false
set_option linter.all false
set_option maxRecDepth 100000
namespace KS
open PySem L2
section
variable {X : Cx} {T : Tb} {CT : Ct} {G : Gm} {N : List Str} {sc : Scope}

theorem se_not {a : E} {x : Expr} {pos : Pos} (ha : SE X CT G x a) : SE X CT G (.UnaryOp .Not x pos) (.not_ a) := by
  intro W tk
  obtain ⟨ta, h1, h2⟩ := ha W tk
  refine ⟨_, pe_notT h1, fun xx b σ H lab ρ k Ψ Q hs En hq hx hp => ?_⟩
  refine h2 xx true σ H lab ρ _ Ψ _ hs En (fun v H1 d ρ1 s1 E1 r1 _ hp1 => ?_) hx hp
  obtain ⟨d', hd, hp1⟩ := den_ofK hs hp1
  obtain ⟨c, hc, rfl⟩ := Option.map_eq_some_iff.mp hd
  refine ⟨c, truth_sound r1.top hc, ?_⟩
  exact hq _ H1 _ ρ1 s1 E1 (.inl rep_bl) (fun _ => rep_bl) hp1
theorem st_not {a : E} {x : Expr} {pos : Pos} (ha : ST X CT G x a) : ST X CT G (.UnaryOp .Not x pos) (.not_ a) := by
  intro W tk
  obtain ⟨ta, h1, _, h2⟩ := ha W tk
  refine ⟨_, pt_not h1, (fun z => nomatch z), fun xx b σ H lab ρ k Ψ Q hs En hk hq hx hp => ?_⟩
  refine h2 xx true σ H lab ρ _ Ψ _ hs En (fun d ρ1 hp1 => ?_) (fun c H1 d ρ1 s1 E1 hd hp1 => ?_) hx hp
  · obtain ⟨d', hd, _⟩ := den_ofK hs hp1
    obtain ⟨c, hc, _⟩ := Option.map_eq_some_iff.mp hd
    exact ⟨c, hc⟩
  · obtain ⟨d', hd', hp1⟩ := den_ofK hs hp1
    rw [hd] at hd'
    cases hd'
    exact hq (!c) H1 _ ρ1 s1 E1 rfl hp1
theorem se_neg {a : E} {x : Expr} {pos : Pos} (ha : SE X CT G x a) : SE X CT G (.UnaryOp .USub x pos) (.neg a) := by
  intro W tk
  obtain ⟨ta, h1, h2⟩ := ha W tk
  refine ⟨_, pe_un un_neg h1, fun xx b σ H lab ρ k Ψ Q hs En hq hx hp => ?_⟩
  refine h2 xx true σ H lab ρ _ Ψ _ hs En (fun v H1 d ρ1 s1 E1 r1 _ hp1 => ?_) hx hp
  obtain ⟨d', hd, hp1⟩ := den_ofK hs hp1
  cases d with
  | int i =>
    cases hd
    exact ⟨i, r1.top.int, hq _ H1 _ ρ1 s1 E1 (.inl rep_int) (fun _ => rep_int) hp1⟩
  | _ => cases hd
/-- and, or: two of them, the second one as the layer wants it -/
theorem ev_and {W : WX} {a c : E} {ta tb : TE} (h2 : EvS X CT G W a ta) (h4 : EvS X CT G W c tb) : EvS X CT G W (.and_ a c) (tAndT X.K ta tb) := by
  intro xx b σ H lab ρ k Ψ Q hs En hq hx hp
  have st : ∀ {H1 H2}, Stp a.tch lab H1 H2 → Stp (KS.E.and_ a c).tch lab H1 H2 := fun s => s.imp fun i h => or_l h
  have st2 : ∀ {H1 H2}, Stp c.tch lab H1 H2 → Stp (KS.E.and_ a c).tch lab H1 H2 := fun s => s.imp fun i h => or_r h
  refine h2 xx false σ H lab ρ _ Ψ _ hs En (fun v H1 d ρ1 s1 E1 r1 r1' hp1 => ?_) (fun xt c pl cls dx H' s => hx xt c pl cls dx H' (st s)) hp
  obtain ⟨cc, hc, hp1⟩ := den_tri hs hp1
  refine ⟨cc, truth_sound r1.top hc, ?_⟩
  cases cc with
  | true =>
    refine h4 xx false σ H1 lab ρ1 _ Ψ _ hs E1 (fun u H2 d2 ρ2 s2 E2 r2 r2' hp2 => ?_) (fun xt c pl cls dx H' s => hx xt c pl cls dx H' ((st s1).trans (st2 s))) hp1
    exact hq u H2 d2 ρ2 ((st s1).trans (st2 s2)) E2 (.inl (r2' rfl)) (fun _ => r2' rfl) hp2
  | false => exact hq v H1 d ρ1 (st s1) E1 (.inl (r1' rfl)) (fun _ => r1' rfl) hp1
theorem ev_or {W : WX} {a c : E} {ta tb : TE} (h2 : EvS X CT G W a ta) (h4 : EvS X CT G W c tb) : EvS X CT G W (.or_ a c) (tOrT X.K ta tb) := by
  intro xx b σ H lab ρ k Ψ Q hs En hq hx hp
  have st : ∀ {H1 H2}, Stp a.tch lab H1 H2 → Stp (KS.E.or_ a c).tch lab H1 H2 := fun s => s.imp fun i h => or_l h
  have st2 : ∀ {H1 H2}, Stp c.tch lab H1 H2 → Stp (KS.E.or_ a c).tch lab H1 H2 := fun s => s.imp fun i h => or_r h
  refine h2 xx false σ H lab ρ _ Ψ _ hs En (fun v H1 d ρ1 s1 E1 r1 r1' hp1 => ?_) (fun xt c pl cls dx H' s => hx xt c pl cls dx H' (st s)) hp
  obtain ⟨cc, hc, hp1⟩ := den_tri hs hp1
  refine ⟨cc, truth_sound r1.top hc, ?_⟩
  cases cc with
  | false =>
    refine h4 xx false σ H1 lab ρ1 _ Ψ _ hs E1 (fun u H2 d2 ρ2 s2 E2 r2 r2' hp2 => ?_) (fun xt c pl cls dx H' s => hx xt c pl cls dx H' ((st s1).trans (st2 s))) hp1
    exact hq u H2 d2 ρ2 ((st s1).trans (st2 s2)) E2 (.inl (r2' rfl)) (fun _ => r2' rfl) hp2
  | true => exact hq v H1 d ρ1 (st s1) E1 (.inl (r1' rfl)) (fun _ => r1' rfl) hp1
theorem se_and2 {a c : E} {x y : Expr} {pos : Pos} (ha : SE X CT G x a) (hc : SE X CT G y c) : SE X CT G (.BoolOp .And [x, y] pos) (.and_ a c) := by
  intro W tk
  obtain ⟨ta, h1, h2⟩ := ha W tk
  obtain ⟨tb, h3, h4⟩ := hc W tk
  exact ⟨_, pe_andT h1 (pe_one h3), ev_and h2 h4⟩
theorem se_and3 {a c : E} {x y z : Expr} {r : List Expr} {pos : Pos} (ha : SE X CT G x a) (hc : SE X CT G (.BoolOp .And (y :: z :: r) pos) c) : SE X CT G (.BoolOp .And (x :: y :: z :: r) pos) (.and_ a c) := by
  intro W tk
  obtain ⟨ta, h1, h2⟩ := ha W tk
  obtain ⟨tb, h3, h4⟩ := hc W tk
  exact ⟨_, pe_andT h1 h3, ev_and h2 h4⟩
theorem se_or2 {a c : E} {x y : Expr} {pos : Pos} (ha : SE X CT G x a) (hc : SE X CT G y c) : SE X CT G (.BoolOp .Or [x, y] pos) (.or_ a c) := by
  intro W tk
  obtain ⟨ta, h1, h2⟩ := ha W tk
  obtain ⟨tb, h3, h4⟩ := hc W tk
  exact ⟨_, pe_orT h1 (pe_one h3), ev_or h2 h4⟩
theorem se_or3 {a c : E} {x y z : Expr} {r : List Expr} {pos : Pos} (ha : SE X CT G x a) (hc : SE X CT G (.BoolOp .Or (y :: z :: r) pos) c) : SE X CT G (.BoolOp .Or (x :: y :: z :: r) pos) (.or_ a c) := by
  intro W tk
  obtain ⟨ta, h1, h2⟩ := ha W tk
  obtain ⟨tb, h3, h4⟩ := hc W tk
  exact ⟨_, pe_orT h1 h3, ev_or h2 h4⟩
theorem ts_and {W : WX} {a c : E} {ta tb : TT} (h2 : TsS X CT G W a ta) (h4 : TsS X CT G W c tb) : TsS X CT G W (.and_ a c) (tAnd ta tb) := by
  intro xx b σ H lab ρ k Ψ Q hs En hk hq hx hp
  have st : ∀ {H1 H2}, Stp a.tch lab H1 H2 → Stp (KS.E.and_ a c).tch lab H1 H2 := fun s => s.imp fun i h => or_l h
  have st2 : ∀ {H1 H2}, Stp c.tch lab H1 H2 → Stp (KS.E.and_ a c).tch lab H1 H2 := fun s => s.imp fun i h => or_r h
  refine h2 xx false σ H lab ρ _ Ψ _ hs En (fun d ρ1 hp1 => ?_) (fun cc H1 d ρ1 s1 E1 hd hp1 => ?_) (fun xt c pl cls dx H' s => hx xt c pl cls dx H' (st s)) hp
  · obtain ⟨cc, hc, _⟩ := den_tri hs hp1
    exact ⟨cc, hc⟩
  · obtain ⟨c2, hc, hp1⟩ := den_tri hs hp1
    rw [hd] at hc
    cases hc
    cases cc with
    | true =>
      show tb σ H1 Q
      exact h4 xx false σ H1 lab ρ1 _ Ψ _ hs E1 hk (fun c H2 d2 ρ2 s2 E2 hd2 hp2 => hq c H2 d2 ρ2 ((st s1).trans (st2 s2)) E2 hd2 hp2) (fun xt c pl cls dx H' s => hx xt c pl cls dx H' ((st s1).trans (st2 s))) hp1
    | false =>
      show Q false H1
      exact hq false H1 d ρ1 (st s1) E1 hd hp1
theorem ts_or {W : WX} {a c : E} {ta tb : TT} (h2 : TsS X CT G W a ta) (h4 : TsS X CT G W c tb) : TsS X CT G W (.or_ a c) (tOr ta tb) := by
  intro xx b σ H lab ρ k Ψ Q hs En hk hq hx hp
  have st : ∀ {H1 H2}, Stp a.tch lab H1 H2 → Stp (KS.E.or_ a c).tch lab H1 H2 := fun s => s.imp fun i h => or_l h
  have st2 : ∀ {H1 H2}, Stp c.tch lab H1 H2 → Stp (KS.E.or_ a c).tch lab H1 H2 := fun s => s.imp fun i h => or_r h
  refine h2 xx false σ H lab ρ _ Ψ _ hs En (fun d ρ1 hp1 => ?_) (fun cc H1 d ρ1 s1 E1 hd hp1 => ?_) (fun xt c pl cls dx H' s => hx xt c pl cls dx H' (st s)) hp
  · obtain ⟨cc, hc, _⟩ := den_tri hs hp1
    exact ⟨cc, hc⟩
  · obtain ⟨c2, hc, hp1⟩ := den_tri hs hp1
    rw [hd] at hc
    cases hc
    cases cc with
    | false =>
      show tb σ H1 Q
      exact h4 xx false σ H1 lab ρ1 _ Ψ _ hs E1 hk (fun c H2 d2 ρ2 s2 E2 hd2 hp2 => hq c H2 d2 ρ2 ((st s1).trans (st2 s2)) E2 hd2 hp2) (fun xt c pl cls dx H' s => hx xt c pl cls dx H' ((st s1).trans (st2 s))) hp1
    | true =>
      show Q true H1
      exact hq true H1 d ρ1 (st s1) E1 hd hp1
theorem st_and2 {a c : E} {x y : Expr} {pos : Pos} (ha : ST X CT G x a) (hc : ST X CT G y c) : ST X CT G (.BoolOp .And [x, y] pos) (.and_ a c) := by
  intro W tk
  obtain ⟨ta, h1, _, h2⟩ := ha W tk
  obtain ⟨tb, h3, _, h4⟩ := hc W tk
  have w := pw_and h1 (pw_and1 h3 (pos := pos))
  exact ⟨_, w.pt, fun _ => w, ts_and h2 h4⟩
theorem st_and3 {a c : E} {x y z : Expr} {r : List Expr} {pos : Pos} (ha : ST X CT G x a) (hc : ST X CT G (.BoolOp .And (y :: z :: r) pos) c) : ST X CT G (.BoolOp .And (x :: y :: z :: r) pos) (.and_ a c) := by
  intro W tk
  obtain ⟨ta, h1, _, h2⟩ := ha W tk
  obtain ⟨tb, _, h3, h4⟩ := hc W tk
  have w := pw_and h1 (h3 rfl)
  exact ⟨_, w.pt, fun _ => w, ts_and h2 h4⟩
theorem st_or2 {a c : E} {x y : Expr} {pos : Pos} (ha : ST X CT G x a) (hc : ST X CT G y c) : ST X CT G (.BoolOp .Or [x, y] pos) (.or_ a c) := by
  intro W tk
  obtain ⟨ta, h1, _, h2⟩ := ha W tk
  obtain ⟨tb, h3, _, h4⟩ := hc W tk
  have w := pw_or h1 (pw_or1 h3 (pos := pos))
  exact ⟨_, w.pt, fun _ => w, ts_or h2 h4⟩
theorem st_or3 {a c : E} {x y z : Expr} {r : List Expr} {pos : Pos} (ha : ST X CT G x a) (hc : ST X CT G (.BoolOp .Or (y :: z :: r) pos) c) : ST X CT G (.BoolOp .Or (x :: y :: z :: r) pos) (.or_ a c) := by
  intro W tk
  obtain ⟨ta, h1, _, h2⟩ := ha W tk
  obtain ⟨tb, _, h3, h4⟩ := hc W tk
  have w := pw_or h1 (h3 rfl)
  exact ⟨_, w.pt, fun _ => w, ts_or h2 h4⟩
/-- a if c else e -/
theorem se_ife {c a e : E} {t x y : Expr} {pos : Pos} (hc : ST X CT G t c) (ha : SE X CT G x a) (he : SE X CT G y e) : SE X CT G (.IfExp t x y pos) (.ife c a e) := by
  intro W tk
  obtain ⟨tc, h1, _, h2⟩ := hc W tk
  obtain ⟨ta, h3, h4⟩ := ha W tk
  obtain ⟨te, h5, h6⟩ := he W tk
  refine ⟨_, pe_ifExp h1 h3 h5, fun xx b σ H lab ρ k Ψ Q hs En hq hx hp => ?_⟩
  have s1 : ∀ {H1 H2}, Stp c.tch lab H1 H2 → Stp (KS.E.ife c a e).tch lab H1 H2 := fun s => s.imp fun i h => or_l (or_l h)
  have s2 : ∀ {H1 H2}, Stp a.tch lab H1 H2 → Stp (KS.E.ife c a e).tch lab H1 H2 := fun s => s.imp fun i h => or_l (or_r h)
  have s3 : ∀ {H1 H2}, Stp e.tch lab H1 H2 → Stp (KS.E.ife c a e).tch lab H1 H2 := fun s => s.imp fun i h => or_r h
  refine h2 xx true σ H lab ρ _ Ψ _ hs En (fun d ρ1 hp1 => ?_) (fun cc H1 d ρ1 st1 E1 hd hp1 => ?_) (fun xt c pl cls dx H' s => hx xt c pl cls dx H' (s1 s)) hp
  · obtain ⟨cc, hc, _⟩ := den_tri hs hp1
    exact ⟨cc, hc⟩
  · obtain ⟨c2, hc, hp1⟩ := den_tri hs hp1
    rw [hd] at hc
    cases hc
    cases cc with
    | true =>
      show ta σ H1 Q
      exact h4 xx false σ H1 lab ρ1 _ Ψ _ hs E1 (fun u H2 d2 ρ2 st2 E2 r2 r2' hp2 => hq u H2 d2 ρ2 ((s1 st1).trans (s2 st2)) E2 (.inl (r2' rfl)) (fun _ => r2' rfl) hp2) (fun xt c pl cls dx H' s => hx xt c pl cls dx H' ((s1 st1).trans (s2 s))) hp1
    | false =>
      show te σ H1 Q
      exact h6 xx false σ H1 lab ρ1 _ Ψ _ hs E1 (fun u H2 d2 ρ2 st2 E2 r2 r2' hp2 => hq u H2 d2 ρ2 ((s1 st1).trans (s3 st2)) E2 (.inl (r2' rfl)) (fun _ => r2' rfl) hp2) (fun xt c pl cls dx H' s => hx xt c pl cls dx H' ((s1 st1).trans (s3 s))) hp1
def tIfT (t u v : TT) : TT := fun σ H Q => t σ H fun c H1 => if c = true then u σ H1 Q else v σ H1 Q
theorem pt_ife {t x y : Expr} {tc ta te : TT} {pos : Pos} (hc : PT X t tc) (ha : PT X x ta) (he : PT X y te) : PT X (.IfExp t x y pos) (tIfT tc ta te) := by
  refine ⟨fun pins s σ H Q I h => ?_⟩
  show wpAny _ _ (do if ← isTrue t X.env (eval t X.env) then isTrue x X.env (eval x X.env) else isTrue y X.env (eval y X.env)) _ _ s
  refine wpAny_bind (thn (hc.run pins s σ H _ I h) fun d s1 ⟨H1, I1, q1⟩ => ?_)
  cases d with
  | true => exact ha.run pins s1 σ H1 Q I1 q1
  | false => exact he.run pins s1 σ H1 Q I1 q1
theorem st_ife {c a e : E} {t x y : Expr} {pos : Pos} (hc : ST X CT G t c) (ha : ST X CT G x a) (he : ST X CT G y e) : ST X CT G (.IfExp t x y pos) (.ife c a e) := by
  intro W tk
  obtain ⟨tc, h1, _, h2⟩ := hc W tk
  obtain ⟨ta, h3, _, h4⟩ := ha W tk
  obtain ⟨te, h5, _, h6⟩ := he W tk
  refine ⟨_, pt_ife h1 h3 h5, (fun z => nomatch z), fun xx b σ H lab ρ k Ψ Q hs En hk hq hx hp => ?_⟩
  have s1 : ∀ {H1 H2}, Stp c.tch lab H1 H2 → Stp (KS.E.ife c a e).tch lab H1 H2 := fun s => s.imp fun i h => or_l (or_l h)
  have s2 : ∀ {H1 H2}, Stp a.tch lab H1 H2 → Stp (KS.E.ife c a e).tch lab H1 H2 := fun s => s.imp fun i h => or_l (or_r h)
  have s3 : ∀ {H1 H2}, Stp e.tch lab H1 H2 → Stp (KS.E.ife c a e).tch lab H1 H2 := fun s => s.imp fun i h => or_r h
  refine h2 xx true σ H lab ρ _ Ψ _ hs En (fun d ρ1 hp1 => ?_) (fun cc H1 d ρ1 st1 E1 hd hp1 => ?_) (fun xt c pl cls dx H' s => hx xt c pl cls dx H' (s1 s)) hp
  · obtain ⟨cc, hc, _⟩ := den_tri hs hp1
    exact ⟨cc, hc⟩
  · obtain ⟨c2, hc, hp1⟩ := den_tri hs hp1
    rw [hd] at hc
    cases hc
    cases cc with
    | true =>
      show ta σ H1 Q
      exact h4 xx false σ H1 lab ρ1 _ Ψ _ hs E1 hk (fun c H2 d2 ρ2 st2 E2 hd2 hp2 => hq c H2 d2 ρ2 ((s1 st1).trans (s2 st2)) E2 hd2 hp2) (fun xt c pl cls dx H' s => hx xt c pl cls dx H' ((s1 st1).trans (s2 s))) hp1
    | false =>
      show te σ H1 Q
      exact h6 xx false σ H1 lab ρ1 _ Ψ _ hs E1 hk (fun c H2 d2 ρ2 st2 E2 hd2 hp2 => hq c H2 d2 ρ2 ((s1 st1).trans (s3 st2)) E2 hd2 hp2) (fun xt c pl cls dx H' s => hx xt c pl cls dx H' ((s1 st1).trans (s3 s))) hp1
end
end KS

set_option Elab.async false
set_option linter.all false
set_option maxRecDepth 100000
namespace KS
open PySem L2
section
variable {X : Cx} {T : Tb} {CT : Ct} {G : Gm} {N : List Str} {sc : Scope}

theorem plain_ix {i : Expr} (h1 : sliceB i = false) : PlainIx i := by
  intro o v
  cases i <;> first | rfl | cases h1
theorem plain_sl {i : Expr} (h1 : sliceB i = false) : NoSl i := by
  intro o v
  cases i <;> first | rfl | cases h1
theorem attr_base {o : Expr} {m : Str} {env : PySem.Env} {w : Sem Value} (h : supB o = false) : attributeBase o m env w = w := by
  unfold attributeBase
  split
  · cases h
  · rfl
theorem star_cons {e : Expr} {es : List Expr} {env : PySem.Env} (h : starB e = false) : starEach (e :: es) env = (false, eval e env) :: starEach es env := by
  cases e <;> first | rfl | cases h
theorem se_ix {a c : E} {x y : Expr} {pos : Pos} (h1 : sliceB y = false) (ha : SE X CT G x a) (hc : SE X CT G y c) : SE X CT G (.Subscript x y pos) (.ix a c) := by
  intro W tk
  obtain ⟨ta, h3, h4⟩ := ha W tk
  obtain ⟨tb, h5, h6⟩ := hc W tk
  refine ⟨_, pe_ix (r := rIx X.K) ix_seq h3 h5 (plain_ix h1), fun xx b σ H lab ρ k Ψ Q hs En hq hx hp => ?_⟩
  refine ev_two h4 h6 (t := (KS.E.ix a c).tch) (k := fun da dc ρ2 => ofK (ixND da dc) ρ2 k) (R := fun v u H2 => rIx X.K v u H2 Q) hs En (fun i h => h) (fun v u H2 da dc ρ2 s E2 r1 r2 hp2 => ?_) hx hp
  obtain ⟨d, hd, hp2⟩ := den_ofK hs hp2
  exact ix_sound r1 r2 hd fun z r => hq z H2 d ρ2 s E2 (.inl r) (fun _ => r) hp2
theorem se_dx (C : Cok X T CT G N sc) {a c : E} {x y : Expr} {pos : Pos} (h1 : sliceB y = false) (ha : SE X CT G x a) (hc : SE X CT G y c) : SE X CT G (.Subscript x y pos) (.dx a c) := by
  intro W tk
  obtain ⟨ta, h3, h4⟩ := ha W tk
  obtain ⟨tb, h5, h6⟩ := hc W tk
  refine ⟨_, pe_dget (by have := C.room; omega) h3 h5 (plain_sl h1), fun xx b σ H lab ρ k Ψ Q hs En hq hx hp => ?_⟩
  refine ev_two h4 h6 (t := (KS.E.dx a c).tch) (k := fun da dc ρ2 => ofK (ixDD da dc) ρ2 k) (R := fun v u H2 => ∃ p w, v = .ref p ∧ DGet H2 p u (some w) ∧ Q w H2) hs En (fun i h => h) (fun v u H2 da dc ρ2 s E2 r1 r2 hp2 => ?_) hx hp
  obtain ⟨d, hd, hp2⟩ := den_ofK hs hp2
  exact dx_sound r1 r2 hd fun z r => hq z H2 d ρ2 s E2 (.inl r) (fun _ => r) hp2

/-! ### slices -/
def PoS (X : Cx) (CT : Ct) (G : Gm) (W : WX) (m : E) (t : TO) : Prop := ∀ (x : Bool) (σ : St) (H : Hp) (lab : Lab) (ρ : Env) (k : D → Env → KS.T) (Ψ : RF → Prop) (Q : Option Int → Hp → Prop), ¬ Ψ .stuck → EnvOk X.K σ H lab ρ →
  (∀ d ρ', Ψ ((k d ρ').den G) → ∃ o, partE m d = some o) →
  (∀ o H' d ρ', Stp m.tch lab H H' → EnvOk X.K σ H' lab ρ' → partE m d = some o → Ψ ((k d ρ').den G) → Q o H') →
  (x = true → ∀ c pl cls dx H', Stp m.tch lab H H' → XOk X.K CT c pl cls dx H' lab → Ψ (.exc c pl) → W cls dx σ H') →
  Ψ ((evK x false m ρ k).den G) → t σ H Q
def SO (X : Cx) (CT : Ct) (G : Gm) (e : Option Expr) (m : E) : Prop := ∀ W, Tk CT X W → ∃ t, PO X e t ∧ PoS X CT G W m t
theorem so_none : SO X CT G none .non := by
  intro W tk
  exact ⟨_, po_none, fun x σ H lab ρ k Ψ Q hs En hk hq hx hp => hq none H .non ρ (Stp.refl _ _ _) En rfl hp⟩
theorem so_some {e : Expr} {m : E} (h : SE X CT G e m) (hm : m ≠ .non) : SO X CT G (some e) m := by
  intro W tk
  obtain ⟨t, h1, h2⟩ := h W tk
  refine ⟨_, po_some h1, fun x σ H lab ρ k Ψ Q hs En hk hq hx hp => ?_⟩
  refine h2 x false σ H lab ρ k Ψ _ hs En (fun v H1 d ρ1 s1 E1 r1 _ hp1 => ?_) hx hp
  obtain ⟨o, ho⟩ := hk d ρ1 hp1
  have ho' := ho
  unfold partE at ho
  split at ho
  · exact (hm rfl).elim
  · cases ho
    exact ⟨_, r1.top.int, hq _ H1 _ ρ1 s1 E1 ho' hp1⟩
  · cases ho
theorem se_slc {a lo hi : E} {x : Expr} {l h : Option Expr} {p2 pos : Pos} (ha : SE X CT G x a) (hl : SO X CT G l lo) (hh : SO X CT G h hi) : SE X CT G (.Subscript x (.Slice l h none p2) pos) (.slc a lo hi) := by
  intro W tk
  obtain ⟨ta, h1, h2⟩ := ha W tk
  obtain ⟨tl, h3, h4⟩ := hl W tk
  obtain ⟨th, h5, h6⟩ := hh W tk
  refine ⟨_, pe_slice (sl_ok (X := X)) h1 h3 h5, fun xx b σ H lab ρ k Ψ Q hs En hq hx hp => ?_⟩
  have s1 : ∀ {H1 H2}, Stp a.tch lab H1 H2 → Stp (KS.E.slc a lo hi).tch lab H1 H2 := fun s => s.imp fun i h => or_l (or_l h)
  have s2 : ∀ {H1 H2}, Stp lo.tch lab H1 H2 → Stp (KS.E.slc a lo hi).tch lab H1 H2 := fun s => s.imp fun i h => or_l (or_r h)
  have s3 : ∀ {H1 H2}, Stp hi.tch lab H1 H2 → Stp (KS.E.slc a lo hi).tch lab H1 H2 := fun s => s.imp fun i h => or_r h
  refine h2 xx true σ H lab ρ _ Ψ _ hs En (fun v H1 d ρ1 st1 E1 r1 _ hp1 => ?_) (fun xt c pl cls dx H' s => hx xt c pl cls dx H' (s1 s)) hp
  obtain ⟨hb, hp1⟩ := den_unK hs hp1
  refine h4 xx σ H1 lab ρ1 _ Ψ _ hs E1 (fun dl ρ2 hp2 => let ⟨o, e, _⟩ := den_optK hs hp2; ⟨o, e⟩) (fun ol H2 dl ρ2 st2 E2 el hp2 => ?_) (fun xt c pl cls dx H' s => hx xt c pl cls dx H' ((s1 st1).trans (s2 s))) hp1
  obtain ⟨ol', e1, hp2⟩ := den_optK hs hp2
  rw [el] at e1; cases e1
  refine h6 xx σ H2 lab ρ2 _ Ψ _ hs E2 (fun dh ρ3 hp3 => let ⟨o, e, _⟩ := den_optK hs hp3; ⟨o, e⟩) (fun oh H3 dh ρ3 st3 E3 eh hp3 => ?_) (fun xt c pl cls dx H' s => hx xt c pl cls dx H' (((s1 st1).trans (s2 st2)).trans (s3 s))) hp2
  obtain ⟨oh', e2, hp3⟩ := den_optK hs hp3
  rw [eh] at e2; cases e2
  obtain ⟨d', e3, hp3⟩ := den_ofK hs hp3
  have r3 : RepT X.K H3 (FH H3 lab) d v := r1.after (t := fun j => lo.tch j || hi.tch j) hb ((st2.imp fun i h => or_l h).trans (st3.imp fun i h => or_r h)) fun i h => h
  refine slc_sound E3.lok E3.tf r3 e3 fun z H4 n r => ?_
  exact hq z H4 d' ρ3 ((((s1 st1).trans (s2 st2)).trans (s3 st3)).trans (n.stp E3.lok)) (E3.nw n) (.inl r) (fun _ => r) hp3
/-! ### d.get(k, x) -/
theorem m2_of {o e f : Expr} {m : Str} {apos cpos : Pos} (h1 : (apos.endLine == cpos.line) = true) (h2 : supB o = false) (h3 : starB e = false) (h4 : starB f = false) : M2 X o m apos e f cpos := by
  have t : starEach [e, f] X.env = [(false, eval e X.env), (false, eval f X.env)] := by rw [star_cons h3, star_cons h4]; rfl
  exact ⟨attr_base h2, by rw [t]; rfl, h1, by rw [t]; rfl⟩
theorem se_get (C : Cok X T CT G N sc) {d ke y : E} {o e f : Expr} {apos cpos : Pos} (h1 : (apos.endLine == cpos.line) = true) (h2 : supB o = false) (h3 : starB e = false) (h4 : starB f = false) (hd : SE X CT G o d) (hk : SE X CT G e ke) (hy : SE X CT G f y) :
    SE X CT G (.Call (.Attribute o "get" apos) [e, f] [] cpos) (.get d ke y) := by
  intro W tk
  obtain ⟨td, p1, v1⟩ := hd W tk
  obtain ⟨te, p2, v2⟩ := hk W tk
  obtain ⟨tf, p3, v3⟩ := hy W tk
  refine ⟨_, pe_dget2 (by have := C.room; omega) p1 p2 p3 (m2_of h1 h2 h3 h4), fun xx b σ H lab ρ k Ψ Q hs En hq hx hp => ?_⟩
  have s1 : ∀ {H1 H2}, Stp d.tch lab H1 H2 → Stp (KS.E.get d ke y).tch lab H1 H2 := fun s => s.imp fun i h => or_l (or_l h)
  have s2 : ∀ {H1 H2}, Stp ke.tch lab H1 H2 → Stp (KS.E.get d ke y).tch lab H1 H2 := fun s => s.imp fun i h => or_l (or_r h)
  have s3 : ∀ {H1 H2}, Stp y.tch lab H1 H2 → Stp (KS.E.get d ke y).tch lab H1 H2 := fun s => s.imp fun i h => or_r h
  refine v1 xx true σ H lab ρ _ Ψ _ hs En (fun v H1 dd ρ1 st1 E1 r1 _ hp1 => ?_) (fun xt c pl cls dx H' s => hx xt c pl cls dx H' (s1 s)) hp
  obtain ⟨hb, hp1⟩ := den_unK hs hp1
  obtain ⟨hd1, hp1⟩ := den_unK hs hp1
  cases dd with
  | dic kvs =>
    obtain ⟨p, vs, rfl, e2, _⟩ := id r1.top
    refine ⟨p, rfl, .inl ⟨vs, e2⟩, ?_⟩
    refine v2 xx false σ H1 lab ρ1 _ Ψ _ hs E1 (fun u H2 dk ρ2 st2 E2 r2 r2' hp2 => ?_) (fun xt c pl cls dx H' s => hx xt c pl cls dx H' ((s1 st1).trans (s2 s))) hp1
    refine v3 xx false σ H2 lab ρ2 _ Ψ _ hs E2 (fun z H3 dy ρ3 st3 E3 r3 r3' hp3 => ?_) (fun xt c pl cls dx H' s => hx xt c pl cls dx H' (((s1 st1).trans (s2 st2)).trans (s3 s))) hp2
    obtain ⟨dd', hd', hp3⟩ := den_ofK hs hp3
    have q1 : RepT X.K H3 (FH H3 lab) (.dic kvs) (.ref p) := r1.after (t := fun j => ke.tch j || y.tch j) hb ((st2.imp fun i h => or_l h).trans (st3.imp fun i h => or_r h)) fun i h => h
    obtain ⟨a, ea, _, o, g, q⟩ := get_sound (Q := Q) q1 (Rep.mono st3.rd _ _ (r2' rfl)) (r3' rfl) hd' fun v r => hq v H3 dd' ρ3 (((s1 st1).trans (s2 st2)).trans (s3 st3)) E3 (.inl r) (fun _ => r) hp3
    cases ea
    exact ⟨o, g, q⟩
  | _ => cases hd1
/-! ### lists of expressions -/
theorem ses_nil : SEs X CT G [] .nil := by
  intro W tk
  exact ⟨_, pa_nil, fun x σ H lab ρ k Ψ Q hs En hq hx hp => hq [] H [] ρ (Stp.refl _ _ _) En RepAll.nil hp⟩
theorem ses_cons {a : E} {r : Es} {e : Expr} {es : List Expr} (h1 : starB e = false) (ha : SE X CT G e a) (hr : SEs X CT G es r) : SEs X CT G (e :: es) (.cons a r) := by
  intro W tk
  obtain ⟨ta, p1, v1⟩ := ha W tk
  obtain ⟨tr, p2, v2⟩ := hr W tk
  refine ⟨_, pa_cons p1 p2 (star_cons h1), fun x σ H lab ρ k Ψ Q hs En hq hx hp => ?_⟩
  have s1 : ∀ {H1 H2}, Stp a.tch lab H1 H2 → Stp (Es.cons a r).tch lab H1 H2 := fun s => s.imp fun i h => or_l h
  have s2 : ∀ {H1 H2}, Stp r.tch lab H1 H2 → Stp (Es.cons a r).tch lab H1 H2 := fun s => s.imp fun i h => or_r h
  refine v1 x false σ H lab ρ _ Ψ _ hs En (fun v H1 d ρ1 st1 E1 r1 r1' hp1 => ?_) (fun xt c pl cls dx H' s => hx xt c pl cls dx H' (s1 s)) hp
  refine v2 x σ H1 lab ρ1 _ Ψ _ hs E1 (fun vs H2 ds ρ2 st2 E2 r2 hp2 => ?_) (fun xt c pl cls dx H' s => hx xt c pl cls dx H' ((s1 st1).trans (s2 s))) hp1
  exact hq (v :: vs) H2 (d :: ds) ρ2 ((s1 st1).trans (s2 st2)) E2 (.cons (Rep.mono st2.rd _ _ (r1' rfl)) r2) hp2
/-- a built-in's arguments -/
def EbS (X : Cx) (CT : Ct) (G : Gm) (W : WX) (ms : Es) (t : TA) : Prop := ∀ (x : Bool) (σ : St) (H : Hp) (lab : Lab) (ρ : Env) (k : List D → Env → KS.T) (Ψ : RF → Prop) (Q : List V → Hp → Prop), ¬ Ψ .stuck → EnvOk X.K σ H lab ρ →
  (∀ vs H' ds ρ', Stp ms.tch lab H H' → EnvOk X.K σ H' lab ρ' → RepTs X.K H' (FH H' lab) ds vs → Ψ ((k ds ρ').den G) → Q vs H') →
  (x = true → ∀ c pl cls dx H', Stp ms.tch lab H H' → XOk X.K CT c pl cls dx H' lab → Ψ (.exc c pl) → W cls dx σ H') →
  Ψ ((evbK x ms ρ k).den G) → t σ H Q
def SEb (X : Cx) (CT : Ct) (G : Gm) (es : List Expr) (ms : Es) : Prop := ∀ W, Tk CT X W → ∃ t, PA X es t ∧ EbS X CT G W ms t
theorem seb_nil : SEb X CT G [] .nil := by
  intro W tk
  exact ⟨_, pa_nil, fun x σ H lab ρ k Ψ Q hs En hq hx hp => hq [] H [] ρ (Stp.refl _ _ _) En .nil hp⟩
theorem seb_cons {a : E} {r : Es} {e : Expr} {es : List Expr} (h1 : starB e = false) (ha : SE X CT G e a) (hr : SEb X CT G es r) : SEb X CT G (e :: es) (.cons a r) := by
  intro W tk
  obtain ⟨ta, p1, v1⟩ := ha W tk
  obtain ⟨tr, p2, v2⟩ := hr W tk
  refine ⟨_, pa_cons p1 p2 (star_cons h1), fun x σ H lab ρ k Ψ Q hs En hq hx hp => ?_⟩
  have s1 : ∀ {H1 H2}, Stp a.tch lab H1 H2 → Stp (Es.cons a r).tch lab H1 H2 := fun s => s.imp fun i h => or_l h
  have s2 : ∀ {H1 H2}, Stp r.tch lab H1 H2 → Stp (Es.cons a r).tch lab H1 H2 := fun s => s.imp fun i h => or_r h
  refine v1 x true σ H lab ρ _ Ψ _ hs En (fun v H1 d ρ1 st1 E1 r1 _ hp1 => ?_) (fun xt c pl cls dx H' s => hx xt c pl cls dx H' (s1 s)) hp
  obtain ⟨hb, hp1⟩ := den_unK hs hp1
  refine v2 x σ H1 lab ρ1 _ Ψ _ hs E1 (fun vs H2 ds ρ2 st2 E2 r2 hp2 => ?_) (fun xt c pl cls dx H' s => hx xt c pl cls dx H' ((s1 st1).trans (s2 s))) hp1
  exact hq (v :: vs) H2 (d :: ds) ρ2 ((s1 st1).trans (s2 st2)) E2 (.cons (r1.after hb st2 fun i h => h) r2) hp2
theorem bk_ok {es : List Expr} {ms : Es} {pos : Pos} (h : SEs X CT G es ms) (hs : es.all (fun e => !starB e) = true) : (backTo pos (starEach es X.env)).any (·.1) = false := by
  clear h
  induction es with
  | nil => rfl
  | cons e es ih =>
    rw [List.all_cons, Bool.and_eq_true] at hs
    rw [star_cons (by simpa using hs.1)]
    show (false || _) = false
    rw [Bool.false_or]
    exact ih hs.2
theorem chkEs_star : ∀ {ms : Es} {es : List Expr}, chkEs T N sc ms es = true → es.all (fun e => !starB e) = true
  | .nil, [], _ => rfl
  | .cons a r, e :: es, h => by
    rw [chkEs, Bool.and_eq_true, Bool.and_eq_true] at h
    rw [List.all_cons, Bool.and_eq_true]
    exact ⟨h.1.1, chkEs_star h.2⟩
  | .nil, _ :: _, h => by simp [chkEs] at h
  | .cons _ _, [], h => by simp [chkEs] at h
end
end KS

set_option Elab.async false
set_option linter.all false
set_option maxRecDepth 100000
set_option maxHeartbeats 2000000
/-! ZipIt: zip over two iterators whose last tuple is still held; list(zip(t1, t2)) of two tuples, on the heap. -/
namespace ZiL
open PySem PySem.W PySem.Calls PyProof.Rows PyProof.V PySem.Spec
section
variable {prog : Program} {w : World} {A : Around} {E : Value → Shared → Prop} {s : Shared} {z TI TO T i1 i2 : Addr} {fp1 fp2 : List Addr} {n1 n2 i : Nat} {P1 P2 : Nat → Value → Prop} {St1 St2 : Nat → Heap → Prop} {f : Bool} {oT : Obj}
theorem next_item_held {Q : Value → Shared → Prop} (S : ZipSep2 z TI TO i1 i2 fp1 fp2) (D1 : Draws prog w A i1 fp1 n1 P1 St1) (D2 : Draws prog w A i2 fp2 n2 P2 St2)
    (hz : IsZipHeld s.heap z TI TO T f) (hT : s.heap.get? T = some oT) (hTI : IsTupOf2 s.heap TI (.ref i1) (.ref i2)) (st1 : St1 i s.heap) (st2 : St2 i s.heap) (hlt1 : i < n1) (hlt2 : i < n2)
    (hQ : ∀ x1 x2 h' tk, P1 i x1 → P2 i x2 → IsZipHeld h' z TI TO T true → St1 (i + 1) h' → St2 (i + 1) h' → IsTupOf2 h' s.heap.objs.size x1 x2 → h'.objs.size = s.heap.objs.size + 1 →
      (∀ c o, c ≠ z → c ≠ i1 → c ≠ i2 → s.heap.get? c = some o → h'.get? c = some o) → Q (.ref s.heap.objs.size) { s with heap := h', toks := tk }) :
    wpAny (model prog w) A (Builtin.«zip.__next__» ⟨[.ref z], []⟩) (fun fin s' => ∃ v, fin = .done (.ret v) ∧ Q v s') E s := by
  obtain ⟨hp, g, d, tk0, os⟩ := s
  show wpAny _ _ (field (.ref z) 2 >>= _) _ _ _
  refine wpAny_bind (wpAny_field hz rfl (x := .bool false) rfl ?_)
  show wpAny _ _ (field (.ref z) 3 >>= _) _ _ _
  refine wpAny_bind (wpAny_field hz rfl (x := .ref TI) rfl ?_)
  refine wpAny_bind (wpAny_seqItems hTI rfl ?_)
  show wpAny _ _ (Builtin.SmallTypes.ownedTupleIsFree (.ref z) >>= _) _ _ _
  refine wpAny_bind (wpAny_tupleHeld_zip hz hT fun h₁ hz₁ hs₁ => ?_)
  replace hs₁ : Heap.SameBut z hp h₁ := hs₁
  simp only [Bool.false_eq_true, if_false]
  refine wpAny_bind ?_
  rw [← Array.forIn_toList]
  simp only [List.forIn_cons, List.forIn_nil]
  refine wpAny_bind (wpAny_bind (wpAny_holding ?_))
  show wpAny _ _ (Builtin.SmallTypes.nextOf (.ref i1) >>= _) _ _ ⟨h₁, g, d, tk0, os⟩
  refine wpAny_bind (D1.item i _ _ _ hlt1 (D1.over st1 hs₁ S.zf1) fun x1 p1 tk1 hx1 sn1 hp1 => wpAny_pure ?_)
  replace hp1 : Heap.SameBut i1 h₁ p1 := hp1
  refine wpAny_pure ?_
  refine wpAny_bind (wpAny_bind (wpAny_holding ?_))
  show wpAny _ _ (Builtin.SmallTypes.nextOf (.ref i2) >>= _) _ _ ⟨p1, g, d, tk1, os⟩
  refine wpAny_bind (D2.item i _ _ _ hlt2 (D2.over (D2.over st2 hs₁ S.zf2) hp1 S.sep1_2) fun x2 p2 tk2 hx2 sn2 hp2 => wpAny_pure ?_)
  replace hp2 : Heap.SameBut i2 p1 p2 := hp2
  refine wpAny_pure (wpAny_pure ?_)
  show wpAny _ _ (newTuple [x1, x2] >>= _) _ _ ⟨p2, g, d, tk2, os⟩
  refine wpAny_bind (wpAny_newTuple ?_)
  have hsz : p2.objs.size = hp.objs.size := by rw [hp2.1, hp1.1, hs₁.1]
  have hzz : IsZipHeld p2 z TI TO T true := hp2.extBut _ _ S.zi2 (hp1.extBut _ _ S.zi1 hz₁)
  have hk : ∀ c o, c ≠ z → c ≠ i1 → c ≠ i2 → hp.get? c = some o → p2.get? c = some o := fun c o c1 c2 c3 e => hp2.extBut _ _ c3 (hp1.extBut _ _ c2 (hs₁.extBut _ _ c1 e))
  have j1 : St1 (i + 1) p2 := D1.over sn1 hp2 S.sep2_1
  refine wpAny_pure ⟨_, rfl, ?_⟩
  show Q (.ref p2.objs.size) _
  have hpr : IsTupOf2 (p2.push { cls := .type "tuple", data := .seq #[x1, x2] }) p2.objs.size x1 x2 := Heap.get?_push_size _ rfl
  have hz4 : (p2.push { cls := .type "tuple", data := .seq #[x1, x2] }).objs.size = p2.objs.size + 1 := Heap.size_push ..
  rw [hsz] at hpr hz4 ⊢
  exact hQ _ _ _ tk2 hx1 hx2 (Heap.get?_push_of_some _ hzz) (D1.frame _ _ _ j1 fun b _ o e => Heap.get?_push_of_some _ e) (D2.frame _ _ _ sn2 fun b _ o e => Heap.get?_push_of_some _ e) hpr hz4 fun c o c1 c2 c3 e => Heap.get?_push_of_some _ (hk c o c1 c2 c3 e)
theorem next_end_held {Q : Fin → Shared → Prop} (S : ZipSep2 z TI TO i1 i2 fp1 fp2) (D1 : Draws prog w A i1 fp1 n1 P1 St1) (D2 : Draws prog w A i2 fp2 n2 P2 St2)
    (hz : IsZipHeld s.heap z TI TO T f) (hT : s.heap.get? T = some oT) (hTI : IsTupOf2 s.heap TI (.ref i1) (.ref i2)) (st1 : St1 i s.heap) (st2 : St2 i s.heap) (hle1 : i ≤ n1) (hle2 : i ≤ n2) (hend : i = n1 ∨ i = n2)
    (hE : ∀ h' tk e, (∀ c o, c ≠ z → c ≠ i1 → c ≠ i2 → s.heap.get? c = some o → h'.get? c = some o) → (∃ o, h'.get? e = some o ∧ o.cls = .type "StopIteration") → E (.ref e) { s with heap := h', toks := tk }) :
    wpAny (model prog w) A (Builtin.«zip.__next__» ⟨[.ref z], []⟩) Q E s := by
  obtain ⟨hp, g, d, tk0, os⟩ := s
  show wpAny _ _ (field (.ref z) 2 >>= _) _ _ _
  refine wpAny_bind (wpAny_field hz rfl (x := .bool false) rfl ?_)
  show wpAny _ _ (field (.ref z) 3 >>= _) _ _ _
  refine wpAny_bind (wpAny_field hz rfl (x := .ref TI) rfl ?_)
  refine wpAny_bind (wpAny_seqItems hTI rfl ?_)
  show wpAny _ _ (Builtin.SmallTypes.ownedTupleIsFree (.ref z) >>= _) _ _ _
  refine wpAny_bind (wpAny_tupleHeld_zip hz hT fun h₁ hz₁ hs₁ => ?_)
  replace hs₁ : Heap.SameBut z hp h₁ := hs₁
  simp only [Bool.false_eq_true, if_false]
  refine wpAny_bind ?_
  rw [← Array.forIn_toList]
  simp only [List.forIn_cons, List.forIn_nil]
  refine wpAny_bind (wpAny_bind (wpAny_holding ?_))
  show wpAny _ _ (Builtin.SmallTypes.nextOf (.ref i1) >>= _) _ _ ⟨h₁, g, d, tk0, os⟩
  by_cases hlt1 : i < n1
  · refine wpAny_bind (D1.item i _ _ _ hlt1 (D1.over st1 hs₁ S.zf1) fun x1 p1 tk1 hx1 sn1 hp1 => wpAny_pure ?_)
    replace hp1 : Heap.SameBut i1 h₁ p1 := hp1
    have hi2 : i = n2 := by omega
    refine wpAny_pure ?_
    refine wpAny_bind (wpAny_bind (wpAny_holding ?_))
    show wpAny _ _ (Builtin.SmallTypes.nextOf (.ref i2) >>= _) _ _ ⟨p1, g, d, tk1, os⟩
    refine wpAny_bind (D2.done ⟨p1, g, d, tk1, os⟩ _ _ (by rw [← hi2]; exact D2.over (D2.over st2 hs₁ S.zf2) hp1 S.sep1_2) fun q e hq he => ?_)
    replace hq : Heap.ExtBut i2 p1 q := hq
    exact hE q tk1 e (fun c o c1 c2 c3 x => hq _ _ c3 (hp1.extBut _ _ c2 (hs₁.extBut _ _ c1 x))) he
  · have hi1 : i = n1 := by omega
    refine wpAny_bind (D1.done ⟨h₁, g, d, tk0, os⟩ _ _ (by rw [← hi1]; exact D1.over st1 hs₁ S.zf1) fun q e hq he => ?_)
    replace hq : Heap.ExtBut i1 h₁ q := hq
    exact hE q tk0 e (fun c o c1 c2 c3 x => hq _ _ c2 (hs₁.extBut _ _ c1 x)) he
theorem pyNext_item_held {Q : Option Value → Shared → Prop} (S : ZipSep2 z TI TO i1 i2 fp1 fp2) (D1 : Draws prog w A.in1 i1 fp1 n1 P1 St1) (D2 : Draws prog w A.in1 i2 fp2 n2 P2 St2)
    (hz : IsZipHeld s.heap z TI TO T f) (hT : s.heap.get? T = some oT) (hTI : IsTupOf2 s.heap TI (.ref i1) (.ref i2)) (st1 : St1 i s.heap) (st2 : St2 i s.heap) (hlt1 : i < n1) (hlt2 : i < n2)
    (hQ : ∀ x1 x2 h' tk, P1 i x1 → P2 i x2 → IsZipHeld h' z TI TO T true → St1 (i + 1) h' → St2 (i + 1) h' → IsTupOf2 h' s.heap.objs.size x1 x2 → h'.objs.size = s.heap.objs.size + 1 →
      (∀ c o, c ≠ z → c ≠ i1 → c ≠ i2 → s.heap.get? c = some o → h'.get? c = some o) → Q (some (.ref s.heap.objs.size)) { s with heap := h', toks := tk }) :
    wpAny (model prog w) A (pyNext (.ref z)) Q E s := by
  have hTy : s.TypeIs (.ref z) "zip" := ⟨_, hz, rfl⟩
  unfold pyNext
  exact wpAny_bind (wpAny_attempt (wpAny_callSpecial?_slot (name := Str.ofString "__next__") hTy F.slot_zip_next
    (wpAny_call_entry F.slot_zip_next hTy F.entry_zip_next
      (next_item_held S D1 D2 hz hT hTI st1 st2 hlt1 hlt2 fun x1 x2 h' tk y1 y2 b1 d1 d2 b5 b6 b7 => wpAny_pure (hQ x1 x2 h' tk y1 y2 b1 d1 d2 b5 b6 b7)) (F.args_zip_next_1 _))))
theorem pyNext_end_held {Q : Option Value → Shared → Prop} (S : ZipSep2 z TI TO i1 i2 fp1 fp2) (D1 : Draws prog w A.in1 i1 fp1 n1 P1 St1) (D2 : Draws prog w A.in1 i2 fp2 n2 P2 St2)
    (hz : IsZipHeld s.heap z TI TO T f) (hT : s.heap.get? T = some oT) (hTI : IsTupOf2 s.heap TI (.ref i1) (.ref i2)) (st1 : St1 i s.heap) (st2 : St2 i s.heap) (hle1 : i ≤ n1) (hle2 : i ≤ n2) (hend : i = n1 ∨ i = n2)
    (hQ : ∀ h' tk, (∀ c o, c ≠ z → c ≠ i1 → c ≠ i2 → s.heap.get? c = some o → h'.get? c = some o) → Q none { s with heap := h', toks := tk }) : wpAny (model prog w) A (pyNext (.ref z)) Q E s := by
  have hTy : s.TypeIs (.ref z) "zip" := ⟨_, hz, rfl⟩
  unfold pyNext
  refine wpAny_bind (wpAny_attempt (wpAny_callSpecial?_slot (name := Str.ofString "__next__") hTy F.slot_zip_next
    (wpAny_call_entry F.slot_zip_next hTy F.entry_zip_next (next_end_held S D1 D2 hz hT hTI st1 st2 hle1 hle2 hend fun h' tk e hk he => ?_) (F.args_zip_next_1 _))))
  obtain ⟨o, ho, hc⟩ := he
  refine wpAny_bind (wpAny_isInstance (T := "StopIteration") (b := true) ⟨o, ho, hc⟩ isSubtype_stop ?_)
  exact wpAny_pure (hQ _ _ hk)
end
/-! ## two tuples -/
/-- the zip's things, gone i turns; S the list that grows -/
structure Zst (h : Heap) (z TI TO i1 i2 t1 t2 S : Addr) (xs ys : Array Value) (i : Nat) : Prop where
  tI : IsTupOf2 h TI (.ref i1) (.ref i2)
  s1 : h.IsTupleIter i1 t1 i ∧ h.IsTuple t1 xs
  s2 : h.IsTupleIter i2 t2 i ∧ h.IsTuple t2 ys
  zz : (IsZip h z TI TO .none ∧ ∃ a b, IsTupOf2 h TO a b) ∨ ∃ T f oT, IsZipHeld h z TI TO T f ∧ h.get? T = some oT ∧ T ≠ z ∧ T ≠ i1 ∧ T ≠ i2 ∧ T ≠ S
structure Zap (z TI TO i1 i2 t1 t2 S : Addr) : Prop where
  sep : ZipSep2 z TI TO i1 i2 [i1, t1] [i2, t2]
  t1z : t1 ≠ i1
  t2z : t2 ≠ i2
  zS : z < S
  TIS : TI < S
  TOS : TO < S
  i1S : i1 < S
  i2S : i2 < S
  t1S : t1 < S
  t2S : t2 < S
theorem Zst.keep {h h' : Heap} {z TI TO i1 i2 t1 t2 S : Addr} {xs ys : Array Value} {i : Nat} (p : Zap z TI TO i1 i2 t1 t2 S) (st : Zst h z TI TO i1 i2 t1 t2 S xs ys i) (hk : ∀ b o, b ≠ S → h.get? b = some o → h'.get? b = some o) : Zst h' z TI TO i1 i2 t1 t2 S xs ys i := by
  have nS : ∀ {a : Addr}, a < S → a ≠ S := fun h => Nat.ne_of_lt h
  refine ⟨hk _ _ (nS p.TIS) st.tI, ⟨st.s1.1.at fun o e => hk _ o (nS p.i1S) e, st.s1.2.at fun o e => hk _ o (nS p.t1S) e⟩, ⟨st.s2.1.at fun o e => hk _ o (nS p.i2S) e, st.s2.2.at fun o e => hk _ o (nS p.t2S) e⟩, ?_⟩
  rcases st.zz with ⟨hz, a, b, hTO⟩ | ⟨T, f, oT, hz, hT, r1, r2, r3, r4⟩
  · exact .inl ⟨hk _ _ (nS p.zS) hz, a, b, hk _ _ (nS p.TOS) hTO⟩
  · exact .inr ⟨T, f, oT, hk _ _ (nS p.zS) hz, hk _ _ r4 hT, r1, r2, r3, r4⟩
/-- the addresses as hold the pairs, in order; they lie above S and rise -/
structure ZlG (xs ys : Array Value) (lo : Addr) (h : Heap) (as : List Addr) : Prop where
  rise : as.Pairwise (· < ·)
  above : ∀ a ∈ as, lo < a
  pairs : ∀ (j : Nat) (a : Addr), as[j]? = some a → ∃ x y, xs[j]? = some x ∧ ys[j]? = some y ∧ h.get? a = some { cls := .type "tuple", data := .seq #[x, y] }
theorem ZlG.there {xs ys : Array Value} {lo : Addr} {h : Heap} {as : List Addr} (g : ZlG xs ys lo h as) {a : Addr} (ha : a ∈ as) : a < h.objs.size := by
  obtain ⟨j, hj⟩ := List.mem_iff_getElem?.mp ha
  obtain ⟨_, _, _, _, e⟩ := g.pairs j a hj
  exact Heap.lt_size e
section
variable {prog : Program} {w : World} {A : Around} {s : Shared} {z TI TO i1 i2 t1 t2 S : Addr} {xs ys : Array Value} {i : Nat}
theorem zl_item {E : Value → Shared → Prop} {Q : Option Value → Shared → Prop} (hh : A.handled = none) (p : Zap z TI TO i1 i2 t1 t2 S) (st : Zst s.heap z TI TO i1 i2 t1 t2 S xs ys i) (hS : S < s.heap.objs.size) (h1 : i < xs.size) (h2 : i < ys.size)
    (hQ : ∀ x y h' tk, xs[i]? = some x → ys[i]? = some y → Zst h' z TI TO i1 i2 t1 t2 S xs ys (i + 1) → h'.get? s.heap.objs.size = some { cls := .type "tuple", data := .seq #[x, y] } → h'.objs.size = s.heap.objs.size + 1 →
      (∀ b o, b ≠ z → b ≠ TO → b ≠ i1 → b ≠ i2 → s.heap.get? b = some o → h'.get? b = some o) → Q (some (.ref s.heap.objs.size)) { s with heap := h', toks := tk }) :
    wpAny (model prog w) A (pyNext (.ref z)) Q E s := by
  have D1 : Draws prog w A.in1 i1 [i1, t1] xs.size (fun i v => xs[i]? = some v) (fun i h => h.IsTupleIter i1 t1 i ∧ h.IsTuple t1 xs) := Draws.tuple (A := A.in1) (show A.in1.handled = none from hh) i1 t1 p.t1z xs
  have D2 : Draws prog w A.in1 i2 [i2, t2] ys.size (fun i v => ys[i]? = some v) (fun i h => h.IsTupleIter i2 t2 i ∧ h.IsTuple t2 ys) := Draws.tuple (A := A.in1) (show A.in1.handled = none from hh) i2 t2 p.t2z ys
  have lt : ∀ {c o}, s.heap.get? c = some o → s.heap.objs.size ≠ c := fun e => Nat.ne_of_gt (Heap.lt_size e)
  have m1 : s.heap.objs.size ≠ i1 := let ⟨_, e, _⟩ := st.s1.1; lt e
  have m2 : s.heap.objs.size ≠ i2 := let ⟨_, e, _⟩ := st.s2.1; lt e
  rcases st.zz with ⟨hz, a, b, hTO⟩ | ⟨T, f, oT, hz, hT, r1, r2, r3, r4⟩
  · refine wpAny_pyNext_zipD2_item p.sep D1 D2 hz st.tI hTO st.s1 st.s2 h1 h2 fun x y h' tk y1 y2 b1 b2 d1 d2 b5 b6 hk => ?_
    exact hQ x y h' tk y1 y2 ⟨hk _ _ p.sep.TIz p.sep.TITO p.sep.TIi1 p.sep.TIi2 st.tI, d1, d2, .inr ⟨s.heap.objs.size, false, _, b1, b5, lt hz, m1, m2, Nat.ne_of_gt hS⟩⟩ b5 b6 hk
  · refine pyNext_item_held p.sep D1 D2 hz hT st.tI st.s1 st.s2 h1 h2 fun x y h' tk y1 y2 b1 d1 d2 b5 b6 hk => ?_
    exact hQ x y h' tk y1 y2 ⟨hk _ _ p.sep.TIz p.sep.TIi1 p.sep.TIi2 st.tI, d1, d2, .inr ⟨T, true, oT, b1, hk _ _ r1 r2 r3 hT, r1, r2, r3, r4⟩⟩ b5 b6 fun b o c1 _ c3 c4 e => hk b o c1 c3 c4 e
theorem zl_done {E : Value → Shared → Prop} {Q : Option Value → Shared → Prop} (hh : A.handled = none) (p : Zap z TI TO i1 i2 t1 t2 S) (st : Zst s.heap z TI TO i1 i2 t1 t2 S xs ys i) (h1 : i ≤ xs.size) (h2 : i ≤ ys.size) (he : i = xs.size ∨ i = ys.size)
    (hQ : ∀ h' tk, (∀ b o, b ≠ z → b ≠ TO → b ≠ i1 → b ≠ i2 → s.heap.get? b = some o → h'.get? b = some o) → Q none { s with heap := h', toks := tk }) : wpAny (model prog w) A (pyNext (.ref z)) Q E s := by
  have D1 : Draws prog w A.in1 i1 [i1, t1] xs.size (fun i v => xs[i]? = some v) (fun i h => h.IsTupleIter i1 t1 i ∧ h.IsTuple t1 xs) := Draws.tuple (A := A.in1) (show A.in1.handled = none from hh) i1 t1 p.t1z xs
  have D2 : Draws prog w A.in1 i2 [i2, t2] ys.size (fun i v => ys[i]? = some v) (fun i h => h.IsTupleIter i2 t2 i ∧ h.IsTuple t2 ys) := Draws.tuple (A := A.in1) (show A.in1.handled = none from hh) i2 t2 p.t2z ys
  rcases st.zz with ⟨hz, a, b, hTO⟩ | ⟨T, f, oT, hz, hT, r1, r2, r3, r4⟩
  · exact wpAny_pyNext_zipD2_end p.sep D1 D2 hz st.tI hTO st.s1 st.s2 h1 h2 he hQ
  · exact pyNext_end_held p.sep D1 D2 hz hT st.tI st.s1 st.s2 h1 h2 he fun h' tk hk => hQ h' tk fun b o c1 _ c3 c4 e => hk b o c1 c3 c4 e
end
section
variable {prog : Program} {w : World} {A : Around} {s : Shared} {R : Result → Shared → Prop} {z TI TO i1 i2 t1 t2 S : Addr} {xs ys : Array Value}
theorem zl_loop (hh : A.handled = none) (p : Zap z TI TO i1 i2 t1 t2 S) (hn : min xs.size ys.size ≤ sizeLine) (res : Value) {h₁ : Heap}
    (hR : ∀ h' tk acc c as, (∀ b o, b ≠ S → b ≠ z → b ≠ TO → b ≠ i1 → b ≠ i2 → h₁.get? b = some o → h'.get? b = some o) → h'.get? S = some { cls := .type "list", dict := none, data := .seq acc c, slots := #[] } → as.length = min xs.size ys.size → ZlG xs ys S h' as →
      acc.toList = as.map Value.ref → R (.ok (.ret res)) { s with heap := h', toks := tk }) :
    ∀ (k i : Nat) (h : Heap) (tk c : Nat) (acc : Array Value) (as : List Addr), min xs.size ys.size - i = k → i ≤ min xs.size ys.size → Zst h z TI TO i1 i2 t1 t2 S xs ys i → (∀ b o, b ≠ S → b ≠ z → b ≠ TO → b ≠ i1 → b ≠ i2 → h₁.get? b = some o → h.get? b = some o) →
      h.get? S = some { cls := .type "list", dict := none, data := .seq acc c, slots := #[] } → acc.toList = as.map Value.ref → as.length = i → ZlG xs ys S h as →
      codeAny (model prog w) A (.builtin "list.extend.loop" ⟨[.ref S, .ref z, res], []⟩) R { s with heap := h, toks := tk } := by
  have nz : S ≠ z := Nat.ne_of_gt p.zS
  have nTO : S ≠ TO := Nat.ne_of_gt p.TOS
  have n1 : S ≠ i1 := Nat.ne_of_gt p.i1S
  have n2 : S ≠ i2 := Nat.ne_of_gt p.i2S
  have up4 : ∀ {b : Addr}, S < b → b ≠ z ∧ b ≠ TO ∧ b ≠ i1 ∧ b ≠ i2 := fun h => ⟨Nat.ne_of_gt (Nat.lt_trans p.zS h), Nat.ne_of_gt (Nat.lt_trans p.TOS h), Nat.ne_of_gt (Nat.lt_trans p.i1S h), Nat.ne_of_gt (Nat.lt_trans p.i2S h)⟩
  intro k
  induction k with
  | zero =>
    intro i h tk c acc as hk hi hst hkeep hS hacc hal hG
    refine codeAny_builtin PySem.F.entry_extend_loop ?_
    rw [Around.under_plainId PySem.F.plain_extend_loop _]
    show wpAny _ A.in1 (pyNext (.ref z) >>= _) _ _ _
    refine wpAny_bind (zl_done (s := { s with heap := h, toks := tk }) (A := A.in1) hh p hst (by omega) (by omega) (by omega) fun h' tk' he => ?_)
    refine wpAny_pure (hR h' tk' acc c as (fun b o c1 c2 c3 c4 c5 e => he b o c2 c3 c4 c5 (hkeep b o c1 c2 c3 c4 c5 e)) (he S _ nz nTO n1 n2 hS) (by omega) ⟨hG.rise, hG.above, fun j a hj => ?_⟩ hacc)
    obtain ⟨x, y, e1, e2, e3⟩ := hG.pairs j a hj
    obtain ⟨q1, q2, q3, q4⟩ := up4 (hG.above a (List.mem_of_getElem? hj))
    exact ⟨x, y, e1, e2, he a _ q1 q2 q3 q4 e3⟩
  | succ k ih =>
    intro i h tk c acc as hk hi hst hkeep hS hacc hal hG
    have hlt : i < min xs.size ys.size := by omega
    have hsz : acc.size = i := by rw [← Array.length_toList, hacc, List.length_map, hal]
    have hSl : S < h.objs.size := Heap.lt_size hS
    refine codeAny_builtin PySem.F.entry_extend_loop ?_
    rw [Around.under_plainId PySem.F.plain_extend_loop _]
    show wpAny _ A.in1 (pyNext (.ref z) >>= _) _ _ _
    refine wpAny_bind (zl_item (s := { s with heap := h, toks := tk }) (A := A.in1) hh p hst hSl (by omega) (by omega) fun x y h' tk' hx hy hst' ht hz hkp => ?_)
    dsimp only at ht hz hkp ⊢
    have hS' := hkp S _ nz nTO n1 n2 hS
    have up : ∀ b o, b ≠ S → h'.get? b = some o → (h'.update S (Obj.mapSeq (·.push (Value.ref h.objs.size)))).get? b = some o := fun b o hb e => (Heap.get?_update_other _ _ (Ne.symm hb)).trans e
    show wpAny _ A.in1 (updateSeq S (·.push (Value.ref h.objs.size)) >>= _) _ _ _
    refine wpAny_bind ?_
    refine wpAny_updateSeq hS' rfl (wpAny_pure ⟨plainId_quiet PySem.F.plain_extend_loop _, ih (i + 1) _ tk' _ (acc.push (Value.ref h.objs.size)) (as ++ [h.objs.size]) (by omega) hlt (hst'.keep p up)
      (fun b o c1 c2 c3 c4 c5 e => up b o c1 (hkp b o c2 c3 c4 c5 (hkeep b o c1 c2 c3 c4 c5 e))) (Heap.get?_update_self _ hS' rfl) (by rw [Array.toList_push, hacc, List.map_append]; rfl) (by rw [List.length_append, hal]; rfl) ⟨?_, ?_, ?_⟩⟩) (by rw [hsz]; omega) (by show (acc.push (Value.ref h.objs.size)).size ≤ sizeLine + 1; rw [Array.size_push, hsz]; omega)
    · refine List.pairwise_append.mpr ⟨hG.rise, List.pairwise_singleton _ _, fun a ha b hb => ?_⟩
      rw [List.mem_singleton.mp hb]
      exact hG.there ha
    · intro a ha
      rcases List.mem_append.mp ha with ha | ha
      · exact hG.above a ha
      · rw [List.mem_singleton.mp ha]; exact hSl
    · intro j b hj
      rcases Nat.lt_trichotomy j as.length with h1 | h1 | h1
      · rw [List.getElem?_append_left h1] at hj
        obtain ⟨x', y', e1, e2, e3⟩ := hG.pairs j b hj
        have hb := hG.above b (List.mem_of_getElem? hj)
        obtain ⟨q1, q2, q3, q4⟩ := up4 hb
        exact ⟨x', y', e1, e2, up b _ (Nat.ne_of_gt hb) (hkp b _ q1 q2 q3 q4 e3)⟩
      · subst h1
        have hb : h.objs.size = b := by simpa using hj
        subst hb
        exact ⟨x, y, by rw [hal]; exact hx, by rw [hal]; exact hy, up _ _ (Nat.ne_of_gt hSl) ht⟩
      · have hnone : (as ++ [h.objs.size])[j]? = none := List.getElem?_eq_none (by rw [List.length_append, List.length_singleton]; omega)
        rw [hnone] at hj; cases hj
end
theorem zip_no_len : typeLookup (.type "zip") "__len__" = pure none := by rw [typeLookup_type, builtinLookup_eq_fast]; kernel_rfl
theorem zip_no_hint : typeLookup (.type "zip") "__length_hint__" = pure none := by rw [typeLookup_type, builtinLookup_eq_fast]; kernel_rfl
section
variable {prog : Program} {w : World} {A : Around} {E : Value → Shared → Prop} {s : Shared} {z TI TO i1 i2 t1 t2 : Addr} {xs ys : Array Value}
theorem zl_extend {S : Addr} {R : Result → Shared → Prop} (hh : A.handled = none) (p : Zap z TI TO i1 i2 t1 t2 S) (hz : IsZip s.heap z TI TO .none) (st : Zst s.heap z TI TO i1 i2 t1 t2 S xs ys 0) (res : Value) (c₀ : Nat) (hS : s.heap.get? S = some { cls := .type "list", data := .seq #[] c₀ })
    (hR : ∀ h' tk acc c as, (∀ b o, b ≠ S → b ≠ z → b ≠ TO → b ≠ i1 → b ≠ i2 → s.heap.get? b = some o → h'.get? b = some o) → h'.get? S = some { cls := .type "list", dict := none, data := .seq acc c, slots := #[] } → as.length = min xs.size ys.size → ZlG xs ys S h' as →
      acc.toList = as.map Value.ref → R (.ok (.ret res)) { s with heap := h', toks := tk }) (hn : min xs.size ys.size ≤ sizeLine) :
    wpAny (model prog w) A.in1 (Builtin.List.listExtendWith (.ref S) (.ref z) res)
      (fun fin s' => match fin with | .done f => R (.ok f) s' | .again c' => c'.quiet = true ∧ codeAny (model prog w) A c' R s') (fun e s' => R (.error e) s') s := by
  have hTy : s.TypeIs (.ref z) "zip" := ⟨_, hz, rfl⟩
  have hSz : S ≠ z := Nat.ne_of_gt p.zS
  unfold Builtin.List.listExtendWith
  refine wpAny_bind (wpAny_typeOf (T := "zip") hTy ?_)
  have h1 : Builtin.List.listSameRef (.ref S) (.ref z) = false := by simp [Builtin.List.listSameRef, hSz]
  have h2 : (Value.type "zip" == Value.type "list") = false := by decide
  have h3 : (Value.type "zip" == Value.type "tuple") = false := by decide
  simp only [h1, h2, h3, Bool.or_false, Bool.false_eq_true, if_false]
  refine wpAny_bind (wpAny_pyIter_zip hz ?_)
  refine wpAny_bind (wpAny_holding ?_)
  unfold Builtin.List.listLengthHint
  refine wpAny_bind (wpAny_specialOf hTy zip_no_len ?_)
  show wpAny _ A.in1 (specialOf (Value.ref z) (Str.ofString "__length_hint__") >>= _) _ _ _
  refine wpAny_bind (wpAny_specialOf hTy zip_no_hint ?_)
  refine wpAny_pure ?_
  show wpAny _ A.in1 (rule "list.extend.makes-room" >>= fun _ => Builtin.List.listTouch (.ref S) >>= fun _ =>
    again (.builtin "list.extend.loop" ⟨[.ref S, .ref z, res], []⟩)) _ _ _
  refine wpAny_bind (wpAny_rule ?_)
  refine wpAny_bind ?_
  show wpAny _ A.in1 (updateSeq S (·.push .none) >>= fun _ => updateSeq S (·.pop)) _ _ _
  refine wpAny_bind (wpAny_updateSeq hS rfl ?_)
  have hS₂ := Heap.get?_update_self (Obj.mapSeq (·.push Value.none)) hS rfl
  refine wpAny_updateSeq (hz := by seq_fits) hS₂ rfl ?_
  have hS₃ := Heap.get?_update_self (Obj.mapSeq (·.pop)) hS₂ rfl
  have oth : ∀ b o, b ≠ S → s.heap.get? b = some o → ((s.heap.update S (Obj.mapSeq (·.push Value.none))).update S (Obj.mapSeq (·.pop))).get? b = some o := fun b o hb e => (Heap.get?_update_other _ _ (Ne.symm hb)).trans ((Heap.get?_update_other _ _ (Ne.symm hb)).trans e)
  refine wpAny_pure ⟨plainId_quiet PySem.F.plain_extend_loop _, ?_⟩
  exact zl_loop (s := s) (h₁ := s.heap) hh p hn res hR (min xs.size ys.size) 0 _ _ _ #[] [] (Nat.sub_zero _) (Nat.zero_le _) (st.keep p oth) (fun b o c1 _ _ _ _ e => oth b o c1 e) hS₃ rfl rfl
    ⟨List.Pairwise.nil, (fun _ ha => nomatch ha), (fun j a hj => by simp at hj)⟩
theorem zl_init {S : Addr} {R : Result → Shared → Prop} (hh : A.handled = none) (p : Zap z TI TO i1 i2 t1 t2 S) (hz : IsZip s.heap z TI TO .none) (st : Zst s.heap z TI TO i1 i2 t1 t2 S xs ys 0) (hS : s.heap.get? S = some { cls := .type "list", data := .seq #[] })
    (hR : ∀ h' tk acc c as, (∀ b o, b ≠ S → b ≠ z → b ≠ TO → b ≠ i1 → b ≠ i2 → s.heap.get? b = some o → h'.get? b = some o) → h'.get? S = some { cls := .type "list", dict := none, data := .seq acc c, slots := #[] } → as.length = min xs.size ys.size → ZlG xs ys S h' as →
      acc.toList = as.map Value.ref → R (.ok (.ret .none)) { s with heap := h', toks := tk }) (hn : min xs.size ys.size ≤ sizeLine) :
    wpAny (model prog w) A.in1 (Builtin.«list.__init__» ⟨[.ref S, .ref z], []⟩)
      (fun fin s' => match fin with | .done f => R (.ok f) s' | .again c' => c'.quiet = true ∧ codeAny (model prog w) A c' R s') (fun e s' => R (.error e) s') s := by
  show wpAny _ _ (do let old ← Builtin.List.listItems (.ref S); Builtin.List.listUpdate (.ref S) (fun _ => #[]); letGo old.toList.reverse; Builtin.List.listExtendWith (.ref S) (.ref z) .none) _ _ s
  refine wpAny_bind ?_
  unfold Builtin.List.listItems
  refine wpAny_bind (wpAny_seqItems hS rfl (wpAny_pure ?_))
  show wpAny _ _ (updateSeq S (fun _ => #[]) >>= fun _ => letGo (#[] : Array Value).toList.reverse >>= fun _ => Builtin.List.listExtendWith (.ref S) (.ref z) .none) _ _ s
  refine wpAny_bind (wpAny_updateSeq hS rfl ?_)
  have hS₂ := Heap.get?_update_self (Obj.mapSeq (fun _ => (#[] : Array Value))) hS rfl
  have oth : ∀ b o, b ≠ S → s.heap.get? b = some o → (s.heap.update S (Obj.mapSeq (fun _ => (#[] : Array Value)))).get? b = some o :=
    fun b o hb e => (Heap.get?_update_other _ _ (Ne.symm hb)).trans e
  refine wpAny_bind (wpAny_letGo ?_)
  refine zl_extend hh p (oth _ _ (Nat.ne_of_lt p.zS) hz) (st.keep p oth) .none _ hS₂ (fun h' tk acc c as hk hS' hl hG hacc => ?_) hn
  exact hR h' tk acc c as (fun b o c1 c2 c3 c4 c5 e => hk b o c1 c2 c3 c4 c5 (oth b o c1 e)) hS' hl hG hacc
theorem zl_call {Q : Value → Shared → Prop} (hh : A.handled = none) (p : Zap z TI TO i1 i2 t1 t2 s.heap.objs.size) (hz : IsZip s.heap z TI TO .none) (st : Zst s.heap z TI TO i1 i2 t1 t2 s.heap.objs.size xs ys 0) (hn : min xs.size ys.size ≤ sizeLine)
    (hQ : ∀ h' tk acc c as, (∀ b o, b ≠ z → b ≠ TO → b ≠ i1 → b ≠ i2 → s.heap.get? b = some o → h'.get? b = some o) → h'.get? s.heap.objs.size = some { cls := .type "list", dict := none, data := .seq acc c, slots := #[] } → as.length = min xs.size ys.size → ZlG xs ys s.heap.objs.size h' as →
      acc.toList = as.map Value.ref → Q (.ref s.heap.objs.size) { s with heap := h', toks := tk }) :
    wpAny (model prog w) A (call (.type "list") [.ref z]) Q E s := by
  refine callType_codes (Q₁ := fun obj s₁ => obj = .ref s.heap.objs.size ∧ s₁ = { s with heap := s.heap.push { cls := .type "list", data := .seq #[] } }) PySem.F.called_list (PySem.F.typeCall_list_1 _) PySem.F.entry_list_init
    (code_list_new _ ⟨rfl, rfl⟩) fun obj s₁ h₁ => ?_
  obtain ⟨rfl, rfl⟩ := h₁
  have hS : (s.heap.push { cls := .type "list", data := .seq #[] }).get? s.heap.objs.size = some { cls := .type "list", data := .seq #[] } := Heap.get?_push_size _ rfl
  refine ⟨⟨_, hS, rfl⟩, PySem.F.args_list_init_2 _ _, zl_init (A := A.in1) hh p (Heap.get?_push_of_some _ hz) (st.keep p fun b o _ e => Heap.get?_push_of_some _ e) hS (fun h' tk acc c as hk hS' hl hG hacc => ?_) hn⟩
  exact ⟨rfl, hQ h' tk acc c as (fun b o c2 c3 c4 c5 e => hk b o (Nat.ne_of_lt (Heap.lt_size e)) c2 c3 c4 c5 (Heap.get?_push_of_some _ e)) hS' hl hG hacc⟩
end
end ZiL

set_option Elab.async false
set_option linter.all false
set_option maxRecDepth 100000
set_option maxHeartbeats 2000000
/-! ZipPe: list(zip(t1, t2)), by the hand layer's words (the laying of the list turned from HandS.ListItems' road). -/
namespace ZiL
open PySem PySem.Spec PyProof.Rows L2
/-- the tuples tracked at their addresses -/
def putP : Hp → List Addr → List (V × V) → Hp
  | H, a :: as, p :: ps => putP (upd H a (.tup [p.1, p.2])) as ps
  | H, _, _ => H
theorem putP_off {b : Addr} : ∀ (as : List Addr) (ps : List (V × V)) (H : Hp), b ∉ as → putP H as ps b = H b
  | [], _, _, _ => rfl
  | _ :: _, [], _, _ => rfl
  | a :: as, p :: ps, H, h => by
    show putP (upd H a (.tup [p.1, p.2])) as ps b = H b
    rw [putP_off as ps _ (fun z => h (List.mem_cons_of_mem _ z)), upd_ne (fun z => h (by rw [z]; exact List.mem_cons_self))]
theorem putP_at : ∀ (as : List Addr) (ps : List (V × V)) (H : Hp), as.length = ps.length → as.Nodup → Paired (fun (t : Addr) (p : V × V) => putP H as ps t = some (.tup [p.1, p.2])) as ps
  | [], [], _, _, _ => .nil
  | [], _ :: _, _, h, _ => by cases h
  | _ :: _, [], _, h, _ => by cases h
  | a :: as, p :: ps, H, h, hn => by
    have hn' := List.nodup_cons.mp hn
    have ih := putP_at as ps (upd H a (.tup [p.1, p.2])) (Nat.succ.inj h) hn'.2
    refine .cons ?_ ih
    show putP (upd H a (.tup [p.1, p.2])) as ps a = some (.tup [p.1, p.2])
    rw [putP_off as ps _ hn'.1, upd_same]
theorem paired_of : ∀ {α β : Type} {F : α → β → Prop} {xs : List α} {ys : List β}, xs.length = ys.length → (∀ (j : Nat) (x : α), xs[j]? = some x → ∃ y, ys[j]? = some y ∧ F x y) → Paired F xs ys
  | _, _, _, [], [], _, _ => .nil
  | _, _, _, [], _ :: _, h, _ => by cases h
  | _, _, _, _ :: _, [], h, _ => by cases h
  | _, _, _, x :: xs, y :: ys, h, k => by
    refine .cons ?_ (paired_of (Nat.succ.inj h) fun j a e => k (j + 1) a e)
    obtain ⟨z, e, f⟩ := k 0 x rfl
    cases e
    exact f
theorem nn {x y : Nat} (h : x < y ∨ y < x) : @Ne Addr x y := fun e => by
  have e : x = y := e
  omega
theorem n2 {x y z : Nat} (h : x < y ∨ y < x) (k : x < z ∨ z < x) : @Not (@Membership.mem Addr (List Addr) _ [y, z] x) := fun e => by
  rcases List.mem_cons.mp e with e | e
  · exact nn h e
  · exact nn k (List.mem_singleton.mp e)
theorem zap_at {n a b m : Nat} (ha : a < n) (hb : b < n) (hm : m = n + 5) : Zap (n + 4) (n + 2) (n + 3) n (n + 1) a b m := by
  subst hm
  refine ⟨⟨nn (by omega), nn (by omega), nn (by omega), nn (by omega), List.mem_cons_self .., n2 (by omega) (by omega), n2 (by omega) (by omega), nn (by omega), List.mem_cons_self .., n2 (by omega) (by omega), n2 (by omega) (by omega), n2 (by omega) (by omega), n2 (by omega) (by omega)⟩, nn (by omega), nn (by omega), ?_, ?_, ?_, ?_, ?_, ?_, ?_⟩
  · show n + 4 < n + 5; omega
  · show n + 2 < n + 5; omega
  · show n + 3 < n + 5; omega
  · show n < n + 5; omega
  · show n + 1 < n + 5; omega
  · show a < n + 5; omega
  · show b < n + 5; omega
def tListZip (K : PySem.W.Frag) (ta : TA) : TE := fun σ H Q => ta σ H fun vs H1 => ∃ a b xs ys, vs = [.ref a, .ref b] ∧ SqT K H1 a xs ∧ SqT K H1 b ys ∧
  ∀ (H' : Hp) (p : Addr) (ts : List Addr), (∀ b o, H1 b = some o → H' b = some o) → H1 p = none → (∀ t ∈ ts, H1 t = none) → H' p = some (.lst (ts.map V.ref)) → Paired (fun (t : Addr) (q : V × V) => H' t = some (.tup [q.1, q.2])) ts (xs.zip ys) → Q (.ref p) H'
section
variable {X : Cx}
theorem zip_laid {pins : List (Addr × Obj)} {σ : L2.St} {H : Hp} {s : Shared} {h' : Heap} {tk : Nat} {ps : List (V × V)} {S : Addr} {acc : Array Value} {c : Nat} {as : List Addr} (I : Inv X pins σ H s) (hSs : s.heap.objs.size ≤ S) (hz : as.length ≤ sizeLine)
    (hk : ∀ b o, s.heap.get? b = some o → h'.get? b = some o) (hS : h'.get? S = some { cls := .type "list", dict := none, data := .seq acc c, slots := #[] }) (rise : as.Pairwise (· < ·)) (above : ∀ a ∈ as, S < a)
    (hl : as.length = ps.length) (hG : ∀ (j : Nat) (a : Addr) (p : V × V), as[j]? = some a → ps[j]? = some p → ∃ x y, RelV p.1 x ∧ RelV p.2 y ∧ h'.get? a = some { cls := .type "tuple", data := .seq #[x, y] }) (hacc : acc.toList = as.map Value.ref) :
    ∃ H' : Hp, (∀ b o, H b = some o → H' b = some o) ∧ H S = none ∧ (∀ t ∈ as, H t = none) ∧ H' S = some (.lst (as.map V.ref)) ∧ Paired (fun (t : Addr) (q : V × V) => H' t = some (.tup [q.1, q.2])) as ps ∧ Inv X pins σ H' { s with heap := h', toks := tk } := by
  have hSn : S ∉ as := fun z => Nat.lt_irrefl _ (above _ z)
  have nd : as.Nodup := List.Pairwise.imp (fun {a b} (h : a < b) => Nat.ne_of_lt h) rise
  have new : ∀ t ∈ as, H t = none := fun t ht => I.hok.fresh (Nat.le_trans hSs (Nat.le_of_lt (above t ht)))
  have newS : H S = none := I.hok.fresh hSs
  have atP := putP_at as ps (upd H S (.lst (as.map V.ref))) hl nd
  have off : ∀ b, b ∉ as → b ≠ S → putP (upd H S (.lst (as.map V.ref))) as ps b = H b := fun b h1 h2 => by rw [putP_off as ps _ h1, upd_ne h2]
  have low : ∀ b o, s.heap.get? b = some o → b ∉ as ∧ b ≠ S := fun b o e => ⟨fun z => absurd (Heap.lt_size e) (Nat.not_lt.mpr (Nat.le_trans hSs (Nat.le_of_lt (above b z)))), fun z => absurd (Heap.lt_size e) (Nat.not_lt.mpr (by rw [z]; exact hSs))⟩
  have kp : ∀ b u, H b = some u → (putP (upd H S (.lst (as.map V.ref))) as ps) b = some u := fun b u e => by
    rw [off b (fun z => by rw [new b z] at e; cases e) (fun z => by rw [z, newS] at e; cases e)]
    exact e
  have eS : putP (upd H S (.lst (as.map V.ref))) as ps S = some (.lst (as.map V.ref)) := by rw [putP_off as ps _ hSn, upd_same]
  refine ⟨putP (upd H S (.lst (as.map V.ref))) as ps, kp, newS, new, eS, atP, ?_⟩
  refine I.call' (ch := []) rfl ⟨fun b o q _ _ _ => hk b o q, fun b o q _ _ _ => ⟨o.slots, hk b o q⟩, fun b o q n _ => ?_, fun b o q _ => ⟨o, hk b o q⟩, fun b xs q => kp b _ q, fun b o u q => kp b _ q, fun b ps q => ⟨#[], by rw [kp b _ q]; simp⟩⟩ (fun b u q => ?_) I.bare fun b z => by simp at z
  · obtain ⟨z1, z2⟩ := low b o q
    rw [off b z1 z2]
    exact n
  · by_cases hb : b ∈ as
    · obtain ⟨j, pk, e1, e2, e3⟩ := LiI.paired_ix atP hb
      rw [e3] at q
      cases q
      obtain ⟨x, y, r1, r2, f3⟩ := hG j b pk e1 e2
      exact ⟨by show 2 ≤ sizeLine; decide, [x, y], .cons r1 (.cons r2 .nil), ⟨_, f3, rfl, _, rfl⟩⟩
    · by_cases hb2 : b = S
      · rw [hb2] at q ⊢
        rw [eS] at q
        cases q
        refine ⟨by rw [List.length_map]; omega, acc.toList, c, by rw [hacc]; exact LiI.vals_refs as, ?_⟩
        rw [Array.toArray_toList]
        exact hS
      · rw [off b hb hb2] at q
        exact (I.hok b u q).stay (fun d v _ y => hk d v y) (fun d y => kp d _ y) fun d xs y => kp d _ y
theorem pe_listZip {e e2 : Expr} {ta : TA} {p p2 q pos : Pos} (hc : X.calm = true) (ha : PA X [e, e2] ta) (hg : Gl X "list") (hm : X.mg "list" = none) (hg2 : Gl X "zip") (hm2 : X.mg "zip" = none) (hv : bootBuiltins "list" = some (.type "list"))
    (hs : starEach [.Call (.Name "zip" p2) [e, e2] [] q] X.env = (false, eval (.Call (.Name "zip" p2) [e, e2] [] q) X.env) :: starEach [] X.env := by rfl)
    (hs2 : starEach [e, e2] X.env = (false, eval e X.env) :: starEach [e2] X.env := by rfl) (hpl : (backTo q (starEach [e2] X.env)).any (·.1) = false := by rfl) :
    PE X (.Call (.Name "list" p) [.Call (.Name "zip" p2) [e, e2] [] q] [] pos) (tListZip X.K ta) := by
  refine ⟨fun pins s σ H Q I hq => ?_⟩
  refine wpAny_Call_Name_kw (ld_blt I hg hm hv ?_)
  refine PyProof.Rows.callWith_type1 ?_ hs rfl
  rw [hs]
  show wpAny _ _ (spliced ((false, eval (.Call (.Name "zip" p2) [e, e2] [] q) X.env) :: backTo pos (starEach [] X.env))) _ _ s
  refine Calls.spliced_cons ?_
  refine Call_ (ld_blt I hg2 hm2 PyProof.Rows.boot_zip (PyProof.Rows.callWith_type1 (thn (ha.run q pins s σ H _ I hq) fun us s1 ⟨vs, H1, I1, r1, q1⟩ => ?_) hs2 hpl))
  obtain ⟨a, b, xs, ys, ex, hqx, hqy, q⟩ := q1
  subst ex
  cases r1 with
  | cons r rr =>
    cases rr with
    | cons r' rr =>
      cases rr
      cases r
      cases r'
      obtain ⟨its, rv, p1, hz1⟩ := I1.tuple hqx
      obtain ⟨its2, rv2, p2, hz2⟩ := I1.tuple hqy
      have la : a < s1.heap.objs.size := p1.lt
      have lb : b < s1.heap.objs.size := p2.lt
      refine zip_begins2 (begins_tuple a its.toArray) (begins_tuple b its2.toArray) (show s1.heap.IsTuple a its.toArray from p1) (show s1.heap.IsTuple b its2.toArray from p2) fun h' hz hTI hTO h1 h2 hsz hk => ?_
      refine Calls.spliced_nil ?_
      have k1 : h'.IsTuple a its.toArray := (show s1.heap.IsTuple a its.toArray from p1).at fun o e => hk a o e
      have k2 : h'.IsTuple b its2.toArray := (show s1.heap.IsTuple b its2.toArray from p2).at fun o e => hk b o e
      have len : xs.length = its.length := Paired.length rv
      have len2 : ys.length = its2.length := Paired.length rv2
      have ap : Zap (s1.heap.objs.size + 4) (s1.heap.objs.size + 2) (s1.heap.objs.size + 3) s1.heap.objs.size (s1.heap.objs.size + 1) a b h'.objs.size := by
        rw [hsz]
        exact zap_at la lb rfl
      refine zl_call (s := { s1 with heap := h' }) (xs := its.toArray) (ys := its2.toArray) (I1.ok.hd hc) ap hz ⟨hTI, ⟨⟨_, h1, rfl, rfl⟩, k1⟩, ⟨⟨_, h2, rfl, rfl⟩, k2⟩, .inl ⟨hz, _, _, hTO⟩⟩ (by simp only [List.size_toArray]; omega) fun h2 tk acc c as hk2 hS hl hG hacc => ?_
      have hlz : as.length = (xs.zip ys).length := by rw [hl, List.length_zip, List.size_toArray, List.size_toArray, len, len2]
      have old : ∀ b o, s1.heap.get? b = some o → h2.get? b = some o := fun b o e => by
        have lt : @LT.lt Nat _ b s1.heap.objs.size := Heap.lt_size e
        exact hk2 b o (nn (by omega)) (nn (by omega)) (nn (by omega)) (nn (by omega)) (hk b o e)
      have hp : ∀ (j : Nat) (t : Addr) (pr : V × V), as[j]? = some t → (xs.zip ys)[j]? = some pr → ∃ x y, RelV pr.1 x ∧ RelV pr.2 y ∧ h2.get? t = some { cls := .type "tuple", data := .seq #[x, y] } := fun j t pr e1 e2 => by
        obtain ⟨x, y, f1, f2, f3⟩ := hG.pairs j t e1
        rw [List.getElem?_zip_eq_some] at e2
        obtain ⟨u1, ru1, ru2⟩ := LiI.paired_get rv e2.1
        obtain ⟨u2, rw1, rw2⟩ := LiI.paired_get rv2 e2.2
        have f1 : its[j]? = some x := by simpa using f1
        have f2 : its2[j]? = some y := by simpa using f2
        rw [ru1] at f1
        rw [rw1] at f2
        cases f1
        cases f2
        exact ⟨_, _, ru2, rw2, f3⟩
      obtain ⟨H', g1, g2, g3, g4, g5, J⟩ := zip_laid (tk := tk) (ps := xs.zip ys) I1 (show s1.heap.objs.size ≤ h'.objs.size by omega) (by rw [hlz, List.length_zip]; omega) old hS hG.rise hG.above hlz hp hacc
      exact ⟨.ref h'.objs.size, H', J, rfl, q H' _ as g1 g2 g3 g4 g5⟩
end
end ZiL

set_option Elab.async false
set_option linter.all false
set_option maxRecDepth 100000
namespace KS
open PySem L2
/-! ### an own thing is changed -/
section
variable {K : PySem.W.Frag} {σ : St} {H H' : Hp} {lab : Lab} {ρ : Env} {t : Nat → Bool} {p : Addr} {o : HO} {i : Nat}
theorem FH_upd_own {l : Lb} (h : lab p = some l) : FH (upd H p o) lab = FH H lab := by
  funext b
  unfold FH
  cases e : lab b with
  | some _ => rfl
  | none => exact upd_ne (fun z => by rw [z, h] at e; cases e)
theorem stp_own {j : Nat} (h : lab p = some (.loc i j)) (ht : t i = true) : Stp t lab H (upd H p o) := by
  refine ⟨fun a e _ => upd_ne (fun z => by rw [z, h] at e; cases e), fun a i' j' e n => upd_ne (fun z => ?_), fun a e => upd_ne (fun z => by rw [z, h] at e; cases e), fun a ha => ?_⟩
  · rw [z, h] at e
    cases e
    rw [ht] at n; cases n
  · by_cases e : a = p
    · rw [e, upd_same]; exact fun z => nomatch z
    · rw [upd_ne e]; exact ha
def notTup (o : HO) : Prop := ∀ xs, o ≠ .tup xs ∧ ∀ ob, o ≠ .frz ob (.tup xs)
theorem notTup_lst {xs : List V} : notTup (.lst xs) := fun _ => ⟨(fun z => nomatch z), (fun _ z => nomatch z)⟩
theorem notTup_dK {xs : List (Key × V)} : notTup (.dK xs) := fun _ => ⟨(fun z => nomatch z), (fun _ z => nomatch z)⟩
theorem TupFree.upd (h : TupFree lab H) (ho : notTup o) : TupFree lab (upd H p o) := fun a l xs e r => by
  by_cases z : a = p
  · subst z
    rcases r with r | ⟨ob, r⟩
    · rw [upd_same] at r; exact (ho xs).1 (Option.some.inj r)
    · rw [upd_same] at r; exact (ho xs).2 ob (Option.some.inj r)
  · unfold Rd at r
    rw [upd_ne z] at r
    exact h a l xs e r
theorem EnvOk.mut (E : EnvOk K σ H lab ρ) {sv : SV} (hl : lab p = some (.loc i 0)) (ho : notTup o) (hi : i < ρ.length) (hσ : σ[i]? = some (some (.ref p))) (h : OAt K (upd H p o) lab i sv (.ref p)) : EnvOk K σ (upd H p o) lab (ρ.set i sv) := by
  have s : Stp (fun j => j == i) lab H (upd H p o) := stp_own hl (by simp)
  refine ⟨s.lab E.lok, E.tf.upd ho, by rw [List.length_set, E.len], fun j sv' e n => ?_⟩
  by_cases hj : j = i
  · subst hj
    rw [List.getElem?_set_self hi] at e
    cases e
    exact ⟨_, hσ, h⟩
  · rw [List.getElem?_set_ne (Ne.symm hj)] at e
    obtain ⟨v, h1, h2⟩ := E.at_ j sv' e n
    exact ⟨v, h1, h2.step s (by simpa using hj)⟩
theorem set_same {ρ : Env} {i : Nat} {sv : SV} (h : ρ[i]? = some sv) : ρ.set i sv = ρ := by
  apply List.ext_getElem?
  intro j
  by_cases hj : j = i
  · subst hj
    have hi : j < ρ.length := by
      rcases Nat.lt_or_ge j ρ.length with q | q
      · exact q
      · rw [List.getElem?_eq_none q] at h; cases h
    rw [List.getElem?_set_self hi, h]
  · rw [List.getElem?_set_ne (Ne.symm hj)]
theorem lt_of_get {ρ : Env} {i : Nat} {sv : SV} (h : ρ[i]? = some sv) : i < ρ.length := by
  rcases Nat.lt_or_ge i ρ.length with q | q
  · exact q
  · rw [List.getElem?_eq_none q] at h; cases h
theorem EnvOk.od (E : EnvOk K σ H lab ρ) {kvs : List (Ky × D)} (h : ρ[i]? = some (.od kvs)) : ∃ p vs, σ[i]? = some (some (.ref p)) ∧ lab p = some (.loc i 0) ∧ H p = some (.dK vs) ∧ RepKV K (FH H lab) kvs vs := by
  obtain ⟨v, h1, p, vs, rfl, h2, h3, h4⟩ := E.at_ i _ h (fun z => nomatch z)
  exact ⟨p, vs, h1, h2, h3, h4⟩
theorem EnvOk.ol (E : EnvOk K σ H lab ρ) {ds : List D} (h : ρ[i]? = some (.ol ds)) : ∃ p vs, σ[i]? = some (some (.ref p)) ∧ lab p = some (.loc i 0) ∧ H p = some (.lst vs) ∧ RepAll K (FH H lab) ds vs := by
  obtain ⟨v, h1, p, vs, rfl, h2, h3, h4⟩ := E.at_ i _ h (fun z => nomatch z)
  exact ⟨p, vs, h1, h2, h3, h4⟩
/-- the dict at i is d then -/
theorem EnvOk.putD (E : EnvOk K σ H lab ρ) {kvs kvs' : List (Ky × D)} {vs' : List (Key × V)} (h : ρ[i]? = some (.od kvs)) (hσ : σ[i]? = some (some (.ref p))) (hl : lab p = some (.loc i 0)) (r : RepKV K (FH H lab) kvs' vs') :
    EnvOk K σ (upd H p (.dK vs')) lab (ρ.set i (.od kvs')) :=
  E.mut hl notTup_dK (lt_of_get h) hσ ⟨p, vs', rfl, hl, upd_same, by rw [FH_upd_own hl]; exact r⟩
theorem EnvOk.putL (E : EnvOk K σ H lab ρ) {ds ds' : List D} {vs' : List V} (h : ρ[i]? = some (.ol ds)) (hσ : σ[i]? = some (some (.ref p))) (hl : lab p = some (.loc i 0)) (r : RepAll K (FH H lab) ds' vs') :
    EnvOk K σ (upd H p (.lst vs')) lab (ρ.set i (.ol ds')) :=
  E.mut hl notTup_lst (lt_of_get h) hσ ⟨p, vs', rfl, hl, upd_same, by rw [FH_upd_own hl]; exact r⟩
end
section
variable {X : Cx} {T : Tb} {CT : Ct} {G : Gm} {N : List Str} {sc : Scope}
theorem chkPl_name {p : Pl} {e : Expr} (h : chkPl N sc p e = true) : ∃ i x pos, p = (i, none) ∧ e = .Name x pos ∧ nameB N sc i x = true := by
  obtain ⟨i, f⟩ := p
  cases f with
  | some f => cases e <;> cases h
  | none => cases e with
    | Name x pos => exact ⟨i, _, _, rfl, rfl, h⟩
    | _ => cases h
theorem se_setd (C : Cok X T CT G N sc) {p : Pl} {ke y : E} {o e f : Expr} {apos cpos : Pos} (h1 : (apos.endLine == cpos.line) = true) (h3 : starB e = false) (h4 : starB f = false) (hp : chkPl N sc p o = true) (hk : SE X CT G e ke) (hy : SE X CT G f y) :
    SE X CT G (.Call (.Attribute o "setdefault" apos) [e, f] [] cpos) (.setd p ke y) := by
  obtain ⟨i, x, pos, rfl, rfl, hn⟩ := chkPl_name hp
  intro W tk
  obtain ⟨te, p2, v2⟩ := hk W tk
  obtain ⟨tf, p3, v3⟩ := hy W tk
  refine ⟨_, pe_dsetd (C.name hn) p2 p3 (m2_of h1 rfl h3 h4), fun xx b σ H lab ρ k Ψ Q hs En hq hx hp => ?_⟩
  obtain ⟨ho, hp⟩ := den_unK hs hp
  have g0 : getP ρ (i, none) = ρ[i]? := rfl
  rw [g0] at ho
  have s0 : ∀ {H1 H2}, Stp (fun j => j == i) lab H1 H2 → Stp (KS.E.setd (i, none) ke y).tch lab H1 H2 := fun s => s.imp fun j h => or_l (or_l (by
    have : j = i := by simpa using h
    subst this
    show (j == j) = true
    simp))
  have s2 : ∀ {H1 H2}, Stp ke.tch lab H1 H2 → Stp (KS.E.setd (i, none) ke y).tch lab H1 H2 := fun s => s.imp fun i h => or_l (or_r h)
  have s3 : ∀ {H1 H2}, Stp y.tch lab H1 H2 → Stp (KS.E.setd (i, none) ke y).tch lab H1 H2 := fun s => s.imp fun i h => or_r h
  cases e0 : ρ[i]? with
  | none => rw [e0] at ho; cases ho
  | some sv =>
    rw [e0] at ho
    cases sv with
    | od kvs0 =>
      obtain ⟨q, vs0, q1, q2, q3, q4⟩ := En.od e0
      refine ⟨.ref q, q1, q, rfl, .inl ⟨vs0, .inl q3⟩, ?_⟩
      refine v2 xx false σ H lab ρ _ Ψ _ hs En (fun u H2 dk ρ2 st2 E2 r2 r2' hp2 => ?_) (fun xt c pl cls dx H' s => hx xt c pl cls dx H' (s2 s)) hp
      refine v3 xx false σ H2 lab ρ2 _ Ψ _ hs E2 (fun z H3 dy ρ3 st3 E3 r3 r3' hp3 => ?_) (fun xt c pl cls dx H' s => hx xt c pl cls dx H' ((s2 st2).trans (s3 s))) hp2
      obtain ⟨r, hr, hp3⟩ := den_optK hs hp3
      have hr : setdD (ρ3[i]?) dk dy = some r := hr
      cases e3 : ρ3[i]? with
      | none => rw [e3] at hr; cases hr
      | some sv3 =>
        rw [e3] at hr
        unfold setdD at hr
        split at hr
        · rename_i kvs ky es ek
          cases es
          split at hr
          · rename_i hlen
            obtain ⟨q', vs, w1, w2, w3, w4⟩ := E3.od e3
            rw [q1] at w1
            cases w1
            obtain ⟨rfl, hky⟩ := key_rep (Rep.mono st3.rd _ _ (r2' rfl)) ek
            have fin := (s2 st2).trans (s3 st3)
            refine ⟨vs, kyK ky, w3, rfl, by rw [← w4.length, ← lim_eq]; exact hlen, fun v hv => ?_, fun hv => ?_⟩
            · rcases w4.get hky with ⟨g1, g2⟩ | ⟨d', v', g1, g2, g3⟩
              · rw [g2] at hv; cases hv
              · rw [g2] at hv; cases hv
                rw [g1] at hr; cases hr
                have e4 : setP ρ3 (i, none) (.od kvs) = ρ3 := set_same e3
                rw [e4] at hp3
                exact hq v H3 d' ρ3 fin E3 (.inl g3) (fun _ => g3) hp3
            · rcases w4.get hky with ⟨g1, g2⟩ | ⟨d', v', g1, g2, g3⟩
              · rw [g1] at hr; cases hr
                have E4 := E3.putD e3 q1 q2 (w4.put hky (r3' rfl))
                have r4 : Rep X.K (FH (upd H3 q (.dK (putK vs (kyK ky) z))) lab) dy z := by rw [FH_upd_own q2]; exact r3' rfl
                exact hq z _ dy _ (fin.trans (s0 (stp_own q2 (by simp)))) E4 (.inl r4) (fun _ => r4) hp3
              · rw [g2] at hv; cases hv
          · cases hr
        · cases hr
    | _ => cases ho
theorem se_pop (C : Cok X T CT G N sc) {p : Pl} {o : Expr} {apos cpos : Pos} (h1 : (apos.endLine == cpos.line) = true) (hp : chkPl N sc p o = true) : SE X CT G (.Call (.Attribute o "pop" apos) [] [] cpos) (.pop p) := by
  obtain ⟨i, x, pos, rfl, rfl, hn⟩ := chkPl_name hp
  intro W tk
  refine ⟨_, pe_bm0 PySem.F.plainAttrs_list PySem.F.slot_list_pop PySem.F.type_list_pop mt_pop (C.name hn) (attr_base rfl) h1, fun xx b σ H lab ρ k Ψ Q hs En hq hx hp => ?_⟩
  obtain ⟨r, hr, hp⟩ := den_optK hs hp
  have hr : popD (ρ[i]?) = some r := hr
  have s0 : ∀ {H1 H2}, Stp (fun j => j == i) lab H1 H2 → Stp (KS.E.pop (i, none)).tch lab H1 H2 := fun s => s.imp fun j h => by
    have : j = i := by simpa using h
    subst this
    show (j == j) = true
    simp
  cases e0 : ρ[i]? with
  | none => rw [e0] at hr; cases hr
  | some sv =>
    rw [e0] at hr
    cases sv with
    | ol ds =>
      obtain ⟨q, vs, q1, q2, q3, q4⟩ := En.ol e0
      obtain ⟨d, hd, rfl⟩ := Option.map_eq_some_iff.mp (show ds.getLast?.map (fun d => (d, SV.ol ds.dropLast)) = some r from hr)
      rw [List.getLast?_eq_getElem?] at hd
      obtain ⟨v, hv, rv⟩ := q4.get hd
      rw [q4.length] at hv
      refine ⟨.ref q, q1, (.inl ⟨rfl, vs, .inl (.inl q3)⟩), q, vs, v, rfl, rfl, q3, hv, ?_⟩
      have E4 := En.putL e0 q1 q2 q4.dropLast
      have r4 : Rep X.K (FH (upd H q (.lst vs.dropLast)) lab) d v := by rw [FH_upd_own q2]; exact rv
      exact hq v _ d _ (s0 (stp_own q2 (by simp))) E4 (.inl r4) (fun _ => r4) hp
    | _ => cases hr
/-! ### built-in functions -/
theorem Cok.blt (C : Cok X T CT G N sc) {x : Str} (h : x ∈ bltNames) : X.mg x = none := C.bl x h
theorem pe_bif (C : Cok X T CT G N sc) {b : Bif} {e : Expr} {es : List Expr} {t : TA} {x : Str} {p pos : Pos} (hl : b ≠ .lrange) (hz : b ≠ .lzip) (hx : bifNm b = x) (hg : glB sc x = true) (h1 : starB e = false) (h2 : es.all (fun e => !starB e) = true) (ha : PA X (e :: es) t) :
    PE X (.Call (.Name x p) (e :: es) [] pos) (tCB (rBif X.K b) t) := by
  have he := star_cons (env := X.env) (es := es) h1
  have hb : (backTo pos (starEach es X.env)).any (·.1) = false := by
    clear ha he
    induction es with
    | nil => rfl
    | cons e es ih =>
      rw [List.all_cons, Bool.and_eq_true] at h2
      rw [star_cons (by simpa using h2.1)]
      show (false || _) = false
      rw [Bool.false_or]
      exact ih h2.2
  subst hx
  have o := bif_ok (X := X) C.calm b
  cases b with
  | len => exact pe_callB o (C.glo hg) (C.blt (by decide)) boot_len ha (by decide) (by decide) he hb
  | tuple => exact pe_callTy o (C.glo hg) (C.blt (by decide)) PyProof.Rows.boot_tuple ha (by decide) (by decide) he hb
  | list => exact pe_callTy o (C.glo hg) (C.blt (by decide)) PyProof.Rows.boot_list ha (by decide) (by decide) he hb
  | dict => exact pe_callTy o (C.glo hg) (C.blt (by decide)) PyProof.Rows.boot_dict ha (by decide) (by decide) he hb
  | int => exact pe_callTy o (C.glo hg) (C.blt (by decide)) PyProof.Rows.boot_int ha (by decide) (by decide) he hb
  | all => exact pe_callB o (C.glo hg) (C.blt (by decide)) PyProof.Rows.boot_all ha (by decide) (by decide) he hb
  | any => exact pe_callB o (C.glo hg) (C.blt (by decide)) PyProof.Rows.boot_any ha (by decide) (by decide) he hb
  | max2 => exact pe_callB o (C.glo hg) (C.blt (by decide)) PyProof.Rows.boot_max ha (by decide) (by decide) he hb
  | min2 => exact pe_callB o (C.glo hg) (C.blt (by decide)) PyProof.Rows.boot_min ha (by decide) (by decide) he hb
  | lrange => exact (hl rfl).elim
  | lzip => exact (hz rfl).elim
  | sum => exact pe_callB o (C.glo hg) (C.blt (by decide)) PyProof.Rows.boot_sum ha (by decide) (by decide) he hb
theorem se_bif (C : Cok X T CT G N sc) {b : Bif} {a : E} {r : Es} {e : Expr} {es : List Expr} {x : Str} {p pos : Pos} (hl : b ≠ .lrange) (hz : b ≠ .lzip) (hx : bifNm b = x) (hg : glB sc x = true) (h1 : starB e = false) (h2 : es.all (fun e => !starB e) = true) (ha : SEb X CT G (e :: es) (.cons a r)) :
    SE X CT G (.Call (.Name x p) (e :: es) [] pos) (.bif b (.cons a r)) := by
  intro W tk
  obtain ⟨t, p1, v1⟩ := ha W tk
  refine ⟨_, pe_bif C hl hz hx hg h1 h2 p1, fun xx bb σ H lab ρ k Ψ Q hs En hq hx hp => ?_⟩
  refine v1 xx σ H lab ρ _ Ψ _ hs En (fun vs H1 ds ρ1 s1 E1 r1 hp1 => ?_) hx hp
  obtain ⟨d, hd, hp1⟩ := den_ofK hs hp1
  exact bif_sound E1.lok E1.tf hl hz r1 hd fun v H2 n r => hq v H2 d ρ1 (Stp.trans s1 (n.stp E1.lok)) (E1.nw n) (.inl r) (fun _ => r) hp1
theorem rep_rg {F : Hp} (a b : Int) : RepAll X.K F ((List.range (b - a).toNat).map fun i => D.int (a + (i : Nat))) (rgV a b) := by
  unfold rgV
  generalize List.range (b - a).toNat = l
  induction l with
  | nil => exact RepAll.nil
  | cons i l ih => exact RepAll.cons rep_int ih
theorem se_lrange (C : Cok X T CT G N sc) {a : E} {e : Expr} {x y : Str} {p p2 q pos : Pos} (hx : x = "list") (hy : y = "range") (g1 : glB sc x = true) (g2 : glB sc y = true) (h1 : starB e = false) (ha : SE X CT G e a) :
    SE X CT G (.Call (.Name x p) [.Call (.Name y p2) [e] [] q] [] pos) (.bif .lrange (.cons a .nil)) := by
  subst hx hy
  intro W tk
  obtain ⟨t, p1, v1⟩ := ha W tk
  refine ⟨_, pe_listRg C.calm (C.glo g1) (C.blt (by decide)) (prg_1 (C.glo g2) (C.blt (by decide)) p1 (star_cons h1)), fun xx bb σ H lab ρ k Ψ Q hs En hq hx hp => ?_⟩
  refine v1 xx true σ H lab ρ _ Ψ _ hs En (fun v H1 d ρ1 s1 E1 r1 _ hp1 => ?_) (fun xt c pl cls dx H' s => hx xt c pl cls dx H' (s.imp fun i h => or_l h)) hp
  obtain ⟨_, hp1⟩ := den_unK hs hp1
  obtain ⟨d', hd, hp1⟩ := den_ofK hs hp1
  cases d with
  | int j =>
    have hd : (if j ≤ 16777216 then (rangeD 0 j).map D.lst else none) = some d' := hd
    split at hd
    · rename_i hj
      obtain ⟨ds, e1, rfl⟩ := Option.map_eq_some_iff.mp hd
      unfold rangeD at e1
      split at e1
      · rename_i hr
        cases e1
        refine ⟨j, r1.top.int, ⟨by omega, by omega, by omega, by omega, by omega⟩, fun q hq' => ?_⟩
        have n := Nw.new (o := .lst (rgV 0 j)) hq'
        have r2 := rep_lst_new E1.lok hq' (rep_rg (X := X) (F := FH H1 lab) 0 j)
        exact hq _ _ _ ρ1 (Stp.trans (s1.imp fun i h => or_l h) (n.stp E1.lok)) (E1.nw n) (.inl r2) (fun _ => r2) hp1
      · cases e1
    · cases hd
  | _ => cases hd
/-! ### list(zip(..)) -/
theorem stp_more {t : Nat → Bool} {lab : Lab} {H H' : Hp} (ok : LabOk lab H) (k : ∀ b o, H b = some o → H' b = some o) : Stp t lab H H' := by
  have e : ∀ a, H a ≠ none → H' a = H a := fun a n => by
    cases q : H a with
    | none => exact (n q).elim
    | some o => exact k a o q
  exact ⟨fun a _ n => e a n, fun a i j l _ => e a (ok a _ l), fun a l => e a (ok a _ l), fun a n => by rw [e a n]; exact n⟩
theorem rep_zip {H' : Hp} {lab : Lab} : ∀ {ds es : List D} {xs ys : List V} {ts : List Addr}, RepAll X.K (FH H' lab) ds xs → RepAll X.K (FH H' lab) es ys → PySem.Paired (fun (t : Addr) (q : V × V) => H' t = some (.tup [q.1, q.2])) ts (xs.zip ys) → (∀ t ∈ ts, lab t = none) → RepAll X.K (FH H' lab) (zipD ds es) (ts.map V.ref)
  | [], es, xs, ys, ts, h1, _, h3, _ => by
    rw [RepAll] at h1
    subst h1
    cases h3
    show RepAll X.K _ [] []
    exact .nil
  | d :: ds, [], xs, ys, ts, h1, h2, h3, _ => by
    rw [RepAll] at h2
    subst h2
    rw [List.zip_nil_right] at h3
    cases h3
    show RepAll X.K _ [] []
    exact .nil
  | d :: ds, e :: es, xs, ys, ts, h1, h2, h3, h4 => by
    rw [RepAll] at h1 h2
    obtain ⟨x, xs', rfl, r1, t1⟩ := h1
    obtain ⟨y, ys', rfl, r2, t2⟩ := h2
    rw [List.zip_cons_cons] at h3
    cases h3 with
    | cons hh ht =>
      rename_i t ts
      show RepAll X.K _ (.tup [d, e] :: zipD ds es) (.ref t :: ts.map V.ref)
      refine .cons ?_ (rep_zip t1 t2 ht fun t ht => h4 t (List.mem_cons_of_mem _ ht))
      rw [Rep]
      exact ⟨t, [x, y], rfl, SqT.of (by rw [FH_of (h4 t (List.mem_cons_self ..))]; exact hh), .cons r1 (.cons r2 .nil)⟩
theorem lzip_some : ∀ {ds : List D} {d : D}, bifD .lzip ds = some d → ∃ a b, ds = [.tup a, .tup b] ∧ d = .lst (zipD a b)
  | [.tup a, .tup b], d, h => by cases h; exact ⟨a, b, rfl, rfl⟩
theorem se_lzip (C : Cok X T CT G N sc) {a c : E} {e e2 : Expr} {x y : Str} {p p2 q pos : Pos} (hx : x = "list") (hy : y = "zip") (g1 : glB sc x = true) (g2 : glB sc y = true) (h1 : starB e = false) (h2 : starB e2 = false) (ha : SEb X CT G [e, e2] (.cons a (.cons c .nil))) :
    SE X CT G (.Call (.Name x p) [.Call (.Name y p2) [e, e2] [] q] [] pos) (.bif .lzip (.cons a (.cons c .nil))) := by
  subst hx hy
  intro W tk
  obtain ⟨t, p1, v1⟩ := ha W tk
  refine ⟨_, ZiL.pe_listZip C.calm p1 (C.glo g1) (C.blt (by decide)) (C.glo g2) (C.blt (by decide)) PyProof.Rows.boot_list rfl (star_cons h1) (by rw [star_cons h2]; rfl), fun xx bb σ H lab ρ k Ψ Q hs En hq hx hp => ?_⟩
  refine v1 xx σ H lab ρ _ Ψ _ hs En (fun vs H1 ds ρ1 s1 E1 r1 hp1 => ?_) hx hp
  obtain ⟨d, hd, hp1⟩ := den_ofK hs hp1
  obtain ⟨ds1, es1, rfl, rfl⟩ := lzip_some hd
  cases r1 with
  | cons ra rr =>
    cases rr with
    | cons rb r3 =>
      cases r3
      obtain ⟨pa, xs, rfl, e2, e3⟩ := ra
      obtain ⟨pb, ys, rfl, f2, f3⟩ := rb
      refine ⟨pa, pb, xs, ys, rfl, e2, f2, fun H' p ts kp hp0 hts hpl hpr => ?_⟩
      have s2 : Stp (fun _ => false) lab H1 H' := stp_more E1.lok kp
      have free : ∀ b, H1 b = none → lab b = none := fun b hb => by
        cases q : lab b with
        | none => rfl
        | some l => exact (E1.lok b l q hb).elim
      have rep : Rep X.K (FH H' lab) (.lst (zipD ds1 es1)) (.ref p) := by
        rw [Rep]
        exact ⟨p, _, rfl, by rw [FH_of (free p hp0)]; exact hpl, rep_zip (RepAll.mono s2.rd _ _ e3) (RepAll.mono s2.rd _ _ f3) hpr fun t ht => free t (hts t ht)⟩
      exact hq _ _ _ ρ1 (Stp.trans s1 (stp_more E1.lok kp)) (E1.step s2) (.inl rep) (fun _ => rep) hp1
/-- isinstance -/
theorem ty_boot {ty : Ty} {y : Str} (h : tyNm ty = some y) : y ∈ bltNames ∧ bootBuiltins y = some (.type (tyB ty)) ∧ y ≠ "__name__" ∧ (y == ("__debug__" : Str)) = false := by
  cases ty with
  | int => cases h; exact ⟨by decide, PyProof.Rows.boot_int, by decide, by decide⟩
  | bool => cases h; exact ⟨by decide, PyProof.Rows.boot_bool, by decide, by decide⟩
  | str => cases h; exact ⟨by decide, PyProof.Rows.boot_str, by decide, by decide⟩
  | tuple => cases h; exact ⟨by decide, PyProof.Rows.boot_tuple, by decide, by decide⟩
  | dict => cases h; exact ⟨by decide, PyProof.Rows.boot_dict, by decide, by decide⟩
  | list => cases h; exact ⟨by decide, PyProof.Rows.boot_list, by decide, by decide⟩
  | exc _ => cases h
end
end KS

set_option Elab.async false
set_option linter.all false
set_option maxRecDepth 100000
namespace KS
open PySem L2
section
variable {X : Cx} {T : Tb} {CT : Ct} {G : Gm} {N : List Str} {sc : Scope}
theorem se_isi (C : Cok X T CT G N sc) {a : E} {ty : Ty} {e : Expr} {x y : Str} {p p2 pos : Pos} (hx : x = "isinstance") (hy : tyNm ty = some y) (g1 : glB sc x = true) (g2 : glB sc y = true) (h1 : starB e = false) (ha : SE X CT G e a) :
    SE X CT G (.Call (.Name x p) [e, .Name y p2] [] pos) (.isi a ty) := by
  subst hx
  intro W tk
  obtain ⟨t, p1, v1⟩ := ha W tk
  obtain ⟨b1, b2, b3, b4⟩ := ty_boot hy
  have py : PE X (.Name y p2) (tC (.ty (tyB ty))) := pe_bltn (C.glo g2) (C.blt b1) b2 rfl b3 b4
  have pa : PA X [e, .Name y p2] (tCons t (tCons (tC (.ty (tyB ty))) tNil)) := pa_cons p1 (pa_cons py pa_nil) (star_cons h1)
  refine ⟨_, pe_callB call_isi (C.glo g1) (C.blt (by decide)) PyProof.Rows.boot_isinstance pa (by decide) (by decide) (star_cons h1), fun xx bb σ H lab ρ k Ψ Q hs En hq hx hp => ?_⟩
  refine v1 xx true σ H lab ρ _ Ψ _ hs En (fun v H1 d ρ1 s1 E1 r1 _ hp1 => ?_) hx hp
  obtain ⟨d', hd, hp1⟩ := den_ofK hs hp1
  obtain ⟨b, hb, rfl⟩ := Option.map_eq_some_iff.mp hd
  obtain ⟨TT, t1, t2⟩ := ty_of r1.top (fun cs z => by rw [z] at hy; cases hy) hb
  exact ⟨v, _, .type TT, .type (tyB ty), b, rfl, .ty _, t1, kit_ty t2, hq _ H1 _ ρ1 s1 E1 (.inl rep_bl) (fun _ => rep_bl) hp1⟩
end
/-! ### a new thing is hidden while it is made -/
def hide (lab : Lab) (p : Addr) : Lab := fun a => if a = p then some .far else lab a
section
variable {K : PySem.W.Frag} {σ : St} {H H' : Hp} {lab lab' : Lab} {ρ : Env} {t : Nat → Bool} {p : Addr} {o : HO} {i : Nat}
theorem OAt.move {sv : SV} {v : V} (hl : ∀ a j, lab a = some (.loc i j) → lab' a = some (.loc i j) ∧ H' a = H a) (rd : RdLe (FH H lab) (FH H' lab')) (h : OAt K H lab i sv v) : OAt K H' lab' i sv v := by
  cases sv with
  | dead => trivial
  | dat d => exact Rep.mono rd _ _ h
  | ol ds =>
    obtain ⟨p, xs, e1, e2, e3, e4⟩ := h
    exact ⟨p, xs, e1, (hl _ _ e2).1, (hl _ _ e2).2.trans e3, RepAll.mono rd _ _ e4⟩
  | od ds =>
    obtain ⟨p, xs, e1, e2, e3, e4⟩ := h
    exact ⟨p, xs, e1, (hl _ _ e2).1, (hl _ _ e2).2.trans e3, RepKV.mono rd _ _ e4⟩
  | ob _ _ =>
    obtain ⟨p, L, e1, e2, e3⟩ := h
    exact ⟨p, L, e1, e2.move rd fun q hq => (hl _ _ (e3 q hq)).2, fun q hq => (hl _ _ (e3 q hq)).1⟩
theorem rd_of (h : ∀ a, lab a = none → H a ≠ none → lab' a = none ∧ H' a = H a) : RdLe (FH H lab) (FH H' lab') := by
  have e : ∀ b, FH H lab b ≠ none → FH H' lab' b = FH H lab b := fun b n => by
    cases q : lab b with
    | none =>
      rw [FH_of q] at n ⊢
      obtain ⟨h1, h2⟩ := h b q n
      rw [FH_of h1, h2]
    | some l => exact (n (by unfold FH; rw [q])).elim
  refine ⟨fun b u _ r => ?_, fun b xs _ r => ?_, fun b o u r => ?_⟩
  · unfold Rd
    have n : FH H lab b ≠ none := by rcases r with r | ⟨o, r⟩ <;> (rw [r]; exact fun z => nomatch z)
    rw [e b n]
    exact r
  · rw [e b (by rw [r]; exact fun z => nomatch z)]; exact r
  · rw [e b (by rw [r]; exact fun z => nomatch z)]; exact r
theorem lab_new (ok : LabOk lab H) (h : H p = none) : lab p = none := by
  cases e : lab p with
  | none => rfl
  | some l => exact (ok p l e h).elim
theorem hide_ne {a : Addr} (n : a ≠ p) : hide lab p a = lab a := if_neg n
theorem hide_same : hide lab p p = some .far := if_pos rfl
theorem EnvOk.hide (E : EnvOk K σ H lab ρ) (h : H p = none) (ho : notTup o) : EnvOk K σ (upd H p o) (hide lab p) ρ := by
  have lp := lab_new E.lok h
  have np : ∀ {a l}, lab a = some l → a ≠ p := fun {a l} e z => by rw [z, lp] at e; cases e
  have nh : ∀ {a}, H a ≠ none → a ≠ p := fun {a} e z => e (by rw [z]; exact h)
  refine ⟨fun a l e => ?_, fun a l xs e r => ?_, E.len, fun i sv e n => ?_⟩
  · by_cases z : a = p
    · rw [z, upd_same]; exact fun z => nomatch z
    · rw [upd_ne z]; rw [hide_ne z] at e; exact E.lok a l e
  · by_cases z : a = p
    · subst z
      rcases r with r | ⟨ob, r⟩
      · rw [upd_same] at r; exact (ho xs).1 (Option.some.inj r)
      · rw [upd_same] at r; exact (ho xs).2 ob (Option.some.inj r)
    · unfold Rd at r
      rw [upd_ne z] at r
      rw [hide_ne z] at e
      exact E.tf a l xs e r
  · obtain ⟨v, h1, h2⟩ := E.at_ i sv e n
    exact ⟨v, h1, h2.move (fun a j e => ⟨by rw [hide_ne (np e)]; exact e, upd_ne (np e)⟩) (rd_of fun a e n => ⟨by rw [hide_ne (nh n)]; exact e, upd_ne (nh n)⟩)⟩
/-- labels less: what was hidden is let go -/
theorem EnvOk.unhide (E : EnvOk K σ H (KS.hide lab p) ρ) (lp : lab p = none) : EnvOk K σ (upd H p o) lab ρ := by
  have np : ∀ {a l}, lab a = some l → a ≠ p := fun {a l} e z => by rw [z, lp] at e; cases e
  have np2 : ∀ {a}, KS.hide lab p a = none → a ≠ p := fun {a} e z => by rw [z, hide_same] at e; cases e
  have np3 : ∀ {a i j}, KS.hide lab p a = some (.loc i j) → a ≠ p := fun {a i j} e z => by rw [z, hide_same] at e; cases e
  refine ⟨fun a l e => ?_, fun a l xs e r => ?_, E.len, fun i sv e n => ?_⟩
  · rw [upd_ne (np e)]
    exact E.lok a l (by rw [hide_ne (np e)]; exact e)
  · unfold Rd at r
    rw [upd_ne (np e)] at r
    exact E.tf a l xs (by rw [hide_ne (np e)]; exact e) r
  · obtain ⟨v, h1, h2⟩ := E.at_ i sv e n
    exact ⟨v, h1, h2.move (fun a j e => ⟨by rw [hide_ne (np3 e)] at e; exact e, upd_ne (np3 e)⟩) (rd_of fun a e n => ⟨by have z := np2 e; rw [hide_ne z] at e; exact e, upd_ne (np2 e)⟩)⟩
theorem Stp.unhide {o' : HO} (s : Stp t (KS.hide lab p) (upd H p o) H') (ok : LabOk lab H) (h : H p = none) : Stp t lab H (upd H' p o') := by
  have lp := lab_new ok h
  have np : ∀ {a l}, lab a = some l → a ≠ p := fun {a l} e z => by rw [z, lp] at e; cases e
  have nh : ∀ {a}, H a ≠ none → a ≠ p := fun {a} e z => e (by rw [z]; exact h)
  refine ⟨fun a e n => ?_, fun a i j e n => ?_, fun a e => ?_, fun a n => ?_⟩
  · have z := nh n
    rw [upd_ne z, s.fro a (by rw [hide_ne z]; exact e) (by rw [upd_ne z]; exact n), upd_ne z]
  · have z := np e
    rw [upd_ne z, s.keep a i j (by rw [hide_ne z]; exact e) n, upd_ne z]
  · have z := np e
    rw [upd_ne z, s.far a (by rw [hide_ne z]; exact e), upd_ne z]
  · have z := nh n
    rw [upd_ne z]
    exact s.mono a (by rw [upd_ne z]; exact n)
/-- the same, the thing as it stands -/
theorem Stp.unhide0 (s : Stp t (KS.hide lab p) (upd H p o) H') (ok : LabOk lab H) (h : H p = none) : Stp t lab H H' := by
  have lp := lab_new ok h
  have np : ∀ {a l}, lab a = some l → a ≠ p := fun {a l} e z => by rw [z, lp] at e; cases e
  have nh : ∀ {a}, H a ≠ none → a ≠ p := fun {a} e z => e (by rw [z]; exact h)
  refine ⟨fun a e n => ?_, fun a i j e n => ?_, fun a e => ?_, fun a n => ?_⟩
  · have z := nh n
    rw [s.fro a (by rw [hide_ne z]; exact e) (by rw [upd_ne z]; exact n), upd_ne z]
  · have z := np e
    rw [s.keep a i j (by rw [hide_ne z]; exact e) n, upd_ne z]
  · have z := np e
    rw [s.far a (by rw [hide_ne z]; exact e), upd_ne z]
  · have z := nh n
    exact s.mono a (by rw [upd_ne z]; exact n)
theorem rep_scalar {F F' : Hp} {d : D} {v : V} (s : d.scalar = true) (h : Rep K F d v) : Rep K F' d v := by
  cases d with
  | non => rw [Rep] at h ⊢; exact h
  | bl _ => rw [Rep] at h ⊢; exact h
  | int _ => rw [Rep] at h ⊢; exact h
  | str _ => rw [Rep] at h ⊢; exact h
  | _ => cases s
theorem XOk.any {CT : Ct} {c : Nat} {pl : List D} {cls : Value} {dx : Option Addr} (h : XOk K CT c pl cls dx H lab) : XOk K CT c pl cls dx H lab' := by
  obtain ⟨C, h1, h2, h3⟩ := h
  refine ⟨C, h1, h2, ?_⟩
  split at h3
  · trivial
  · obtain ⟨s, v, e, r⟩ := h3
    exact ⟨s, v, e, rep_scalar s r⟩
  · exact h3
end
/-! ### {'k': v, ..} -/
section
variable {X : Cx} {T : Tb} {CT : Ct} {G : Gm} {N : List Str} {sc : Scope}
def EdS (X : Cx) (CT : Ct) (G : Gm) (W : WX) (ks : List Nat) (ms : Es) (t : List (TE × TE)) : Prop := ∀ (x : Bool) (σ : St) (H : Hp) (lab : Lab) (ρ : Env) (k : List D → Env → KS.T) (Ψ : RF → Prop) (Q : List (V × V) → Hp → Prop), ¬ Ψ .stuck → EnvOk X.K σ H lab ρ →
  (∀ ps H' ds ρ', Stp ms.tch lab H H' → EnvOk X.K σ H' lab ρ' → (∃ vs, RepAll X.K (FH H' lab) ds vs ∧ ds.length = ks.length ∧ ps = ((ks.map fun s => (V.str (wd s))).zip vs)) → Ψ ((k ds ρ').den G) → Q ps H') →
  (x = true → ∀ c pl cls dx H', Stp ms.tch lab H H' → XOk X.K CT c pl cls dx H' lab → Ψ (.exc c pl) → W cls dx σ H') →
  Ψ ((evsK x ms ρ k).den G) → tPairs t σ H Q
def SEd (X : Cx) (CT : Ct) (G : Gm) (pos : Pos) (keys : List (Option Expr)) (es : List Expr) (ks : List Nat) (ms : Es) : Prop := ∀ W, Tk CT X W → ∃ t, PPs X pos keys es t ∧ EdS X CT G W ks ms t
theorem sed_nil {pos : Pos} : SEd X CT G pos [] [] [] .nil := by
  intro W tk
  exact ⟨_, pps_nil, fun x σ H lab ρ k Ψ Q hs En hq hx hp => hq [] H [] ρ (Stp.refl _ _ _) En ⟨[], RepAll.nil, rfl, rfl⟩ hp⟩
theorem isW_lt {n : Nat} {s : Str} (h : isW n s = true) : n < words.length ∧ s = wd n := by
  unfold isW at h
  have h := of_decide_eq_true h
  have hl : n < words.length := by
    rcases Nat.lt_or_ge n words.length with q | q
    · exact q
    · rw [List.getElem?_eq_none q] at h; cases h
  refine ⟨hl, ?_⟩
  unfold wd
  rw [List.getD_eq_getElem?_getD, h]
  rfl
theorem sed_cons {pos : Pos} {a : E} {r : Es} {n : Nat} {ks : List Nat} {s : Str} {j : Nat} {p2 : Pos} {keys : List (Option Expr)} {e : Expr} {es : List Expr} (h1 : isW n s = true) (ha : SE X CT G e a) (hr : SEd X CT G pos keys es ks r) :
    SEd X CT G pos (some (.Constant (.str s) j p2) :: keys) (e :: es) (n :: ks) (.cons a r) := by
  obtain ⟨_, rfl⟩ := isW_lt h1
  intro W tk
  obtain ⟨ta, p1, v1⟩ := ha W tk
  obtain ⟨tr, p2, v2⟩ := hr W tk
  refine ⟨_, pps_cons pe_str p1 p2, fun x σ H lab ρ k Ψ Q hs En hq hx hp => ?_⟩
  have s1 : ∀ {H1 H2}, Stp a.tch lab H1 H2 → Stp (Es.cons a r).tch lab H1 H2 := fun s => s.imp fun i h => or_l h
  have s2 : ∀ {H1 H2}, Stp r.tch lab H1 H2 → Stp (Es.cons a r).tch lab H1 H2 := fun s => s.imp fun i h => or_r h
  refine v1 x false σ H lab ρ _ Ψ _ hs En (fun v H1 d ρ1 st1 E1 r1 r1' hp1 => ?_) (fun xt c pl cls dx H' s => hx xt c pl cls dx H' (s1 s)) hp
  refine v2 x σ H1 lab ρ1 _ Ψ _ hs E1 (fun ps H2 ds ρ2 st2 E2 ⟨vs, r2, e1, e2⟩ hp2 => ?_) (fun xt c pl cls dx H' s => hx xt c pl cls dx H' ((s1 st1).trans (s2 s))) hp1
  exact hq _ H2 (d :: ds) ρ2 ((s1 st1).trans (s2 st2)) E2 ⟨v :: vs, .cons (Rep.mono st2.rd _ _ (r1' rfl)) r2, by rw [List.length_cons, List.length_cons, e1], by rw [e2]; rfl⟩ hp2
theorem chkKeys_len : ∀ {ks : List Nat} {keys : List (Option Expr)}, chkKeys ks keys = true → ks.length = keys.length ∧ keys.all (·.isSome) = true
  | [], [], _ => ⟨rfl, rfl⟩
  | k :: ks, some (.Constant (.str s) _ _) :: es, h => by
    rw [chkKeys, Bool.and_eq_true] at h
    obtain ⟨h1, h2⟩ := chkKeys_len h.2
    exact ⟨by rw [List.length_cons, List.length_cons, h1], by rw [List.all_cons, h2]; rfl⟩
theorem chkKeys_w : ∀ {ks : List Nat} {keys : List (Option Expr)}, chkKeys ks keys = true → ∀ k ∈ ks, k < words.length
  | [], [], _, _, h => (nomatch h)
  | k :: ks, some (.Constant (.str s) _ _) :: es, h, j, hj => by
    rw [chkKeys, Bool.and_eq_true] at h
    rcases List.mem_cons.mp hj with rfl | hj
    · exact (isW_lt h.1).1
    · exact chkKeys_w h.2 j hj
theorem zip_kv {F : Hp} : ∀ {ks : List Nat} {ds : List D} {vs : List V}, RepAll X.K F ds vs → ds.length = ks.length → (∀ k ∈ ks, k < words.length) →
    ∃ kvs : List (Key × V), ((ks.map fun s => (V.str (wd s))).zip vs) = kvs.map (fun kv => (kV kv.1, kv.2)) ∧ kvs.length = ks.length ∧ RepKV X.K F ((ks.map fun s => (Sum.inr s : Ky)).zip ds) kvs
  | [], [], vs, h, _, _ => by rw [RepAll] at h; subst h; exact ⟨[], rfl, rfl, RepKV.nil⟩
  | k :: ks, d :: ds, vs, h, e, hw => by
    rw [RepAll] at h
    obtain ⟨x, xs, rfl, r, t⟩ := h
    obtain ⟨kvs, e1, e2, e3⟩ := zip_kv t (by simpa using e) (fun k hk => hw k (List.mem_cons_of_mem _ hk))
    refine ⟨(kyK (.inr k), x) :: kvs, ?_, by rw [List.length_cons, List.length_cons, e2], RepKV.cons (hw k (List.mem_cons_self ..)) r e3⟩
    exact congrArg ((V.str (wd k), x) :: ·) e1
  | [], _ :: _, _, _, e, _ => by cases e
  | _ :: _, [], _, _, e, _ => by cases e
theorem se_dic {ks : List Nat} {ms : Es} {keys : List (Option Expr)} {es : List Expr} {pos : Pos} (h1 : chkKeys ks keys = true) (h2 : keys.length = es.length) (h3 : 1 ≤ keys.length) (h4 : keys.length ≤ 15) (h : SEd X CT G pos keys es ks ms) :
    SE X CT G (.Dict keys es pos) (.dic ks ms) := by
  intro W tk
  obtain ⟨t, p1, v1⟩ := h W tk
  obtain ⟨k1, k2⟩ := chkKeys_len h1
  refine ⟨_, pe_disp p1 k2 h2 (fun z => by rw [z] at h3; exact absurd h3 (by decide)) h4, fun xx bb σ H lab ρ k Ψ Q hs En hq hx hp => ?_⟩
  intro p hp0
  have lp := lab_new En.lok hp0
  refine v1 xx σ _ (KS.hide lab p) ρ _ Ψ _ hs (En.hide hp0 notTup_dK) (fun ps H1 ds ρ1 s1 E1 ⟨vs, r1, l1, e1⟩ hp1 => ?_) (fun xt c pl cls dx H' s xo => hx xt c pl cls dx H' (s.unhide0 En.lok hp0) xo.any) hp
  obtain ⟨d, hd, hp1⟩ := den_ofK hs hp1
  unfold dispD at hd
  split at hd
  · rename_i hl
    cases hd
    refine ⟨by rw [s1.far p hide_same]; exact upd_same, ?_⟩
    have rd : RdLe (FH H1 (KS.hide lab p)) (FH (upd H1 p (.dK [])) lab) := rd_of fun a e n => by
      have z : a ≠ p := fun z => by rw [z, hide_same] at e; cases e
      rw [hide_ne z] at e
      exact ⟨e, upd_ne z⟩
    obtain ⟨kvs, e2, e3, e4⟩ := zip_kv r1 l1 (chkKeys_w h1)
    refine ⟨kvs, by rw [e1, e2], by rw [e3]; exact hl.2, ?_⟩
    have rd2 : ∀ o, RdLe (FH H1 (KS.hide lab p)) (FH (upd H1 p o) lab) := fun o => rd_of fun a e n => by
      have z : a ≠ p := fun z => by rw [z, hide_same] at e; cases e
      rw [hide_ne z] at e
      exact ⟨e, upd_ne z⟩
    have r5 := RepKV.mono (rd2 (.dK (mergeK [] kvs))) _ _ e4
    have r6 : Rep X.K (FH (upd H1 p (.dK (mergeK [] kvs))) lab) (.dic (mergeD [] ((ks.map fun s => (Sum.inr s : Ky)).zip ds))) (.ref p) := by
      rw [Rep]
      exact ⟨p, _, rfl, .inl (by rw [FH_of lp]; exact upd_same), RepKV.merge r5 RepKV.nil⟩
    exact hq _ _ _ ρ1 (s1.unhide En.lok hp0) (E1.unhide lp) (.inl r6) (fun _ => r6) hp1
  · cases hd
end
end KS

set_option Elab.async false
set_option linter.all false
set_option maxRecDepth 100000
namespace KS
open PySem L2
/-- what an own list or dict holds -/
def OC (K : PySem.W.Frag) (H F : Hp) (p : Addr) : SV → Prop
  | .ol ds => ∃ xs, H p = some (.lst xs) ∧ RepAll K F ds xs
  | .od kvs => ∃ vs, H p = some (.dK vs) ∧ RepKV K F kvs vs
  | _ => False
section
variable {K : PySem.W.Frag} {σ : St} {H H' : Hp} {lab lab' : Lab} {ρ : Env} {t : Nat → Bool} {p : Addr} {i : Nat}
theorem OC.move {F F' : Hp} {sv : SV} (e : H' p = H p) (rd : RdLe F F') (h : OC K H F p sv) : OC K H' F' p sv := by
  cases sv with
  | ol ds =>
    obtain ⟨xs, e1, e2⟩ := h
    exact ⟨xs, e.trans e1, RepAll.mono rd _ _ e2⟩
  | od ds =>
    obtain ⟨xs, e1, e2⟩ := h
    exact ⟨xs, e.trans e1, RepKV.mono rd _ _ e2⟩
  | _ => exact h.elim
theorem OC.notTup {F : Hp} {sv : SV} (h : OC K H F p sv) : ∃ o, H p = some o ∧ notTup o := by
  cases sv with
  | ol ds =>
    obtain ⟨xs, e1, e2⟩ := h
    exact ⟨_, e1, notTup_lst⟩
  | od ds =>
    obtain ⟨xs, e1, e2⟩ := h
    exact ⟨_, e1, notTup_dK⟩
  | _ => exact h.elim
theorem OC.oat {sv : SV} (h : OC K H (FH H lab) p sv) (l : lab p = some (.loc i 0)) : OAt K H lab i sv (.ref p) := by
  cases sv with
  | ol ds =>
    obtain ⟨xs, e3, e4⟩ := h
    exact ⟨p, xs, rfl, l, e3, e4⟩
  | od ds =>
    obtain ⟨xs, e3, e4⟩ := h
    exact ⟨p, xs, rfl, l, e3, e4⟩
  | _ => exact h.elim
theorem ownV_some {sv : SV} (h : ownV ρ i = some sv) : ρ[i]? = some sv ∧ sv.own = true := by
  unfold ownV at h
  split at h
  all_goals first
    | (cases h; done)
    | (cases h; exact ⟨by assumption, rfl⟩)
theorem RepT.move {F F' : Hp} {a : Addr} {d : D} (e : H' a = H a) (rd : RdLe F F') (h : RepT K H F d (.ref a)) : RepT K H' F' d (.ref a) := by
  cases d with
  | tup ds =>
    obtain ⟨p, xs, ep, e2, e3⟩ := h
    cases ep
    refine ⟨a, xs, rfl, ?_, RepAll.mono rd _ _ e3⟩
    rcases e2 with e2 | e2
    · left; unfold Rd at e2 ⊢; rw [e]; exact e2
    · exact .inr e2
  | lst ds =>
    obtain ⟨p, xs, ep, e2, e3⟩ := h
    cases ep
    exact ⟨a, xs, rfl, e.trans e2, RepAll.mono rd _ _ e3⟩
  | dic ds =>
    obtain ⟨p, xs, ep, e2, e3⟩ := h
    cases ep
    refine ⟨a, xs, rfl, ?_, RepKV.mono rd _ _ e3⟩
    unfold Rd at e2 ⊢; rw [e]; exact e2
  | scr ns =>
    obtain ⟨p, ep, e2⟩ := h
    cases ep
    refine ⟨a, rfl, ?_⟩
    rcases e2 with e2 | e2
    · left; unfold Rd at e2 ⊢; rw [e]; exact e2
    · exact .inr e2
  | non => exact Rep.mono rd _ _ (show Rep K _ .non _ from h)
  | bl b => exact Rep.mono rd _ _ (show Rep K _ (.bl b) _ from h)
  | int b => exact Rep.mono rd _ _ (show Rep K _ (.int b) _ from h)
  | str b => exact Rep.mono rd _ _ (show Rep K _ (.str b) _ from h)
  | exc c l => exact Rep.mono rd _ _ (show Rep K _ (.exc c l) _ from h)
end
/-- a def's arguments as they come: mu the cells that it may change, which parameter's and which of its they are, bo what is looked at in place -/
inductive AL (K : PySem.W.Frag) (σ : St) (H : Hp) (lab : Lab) : Nat → List Bool → List (Option Nat) → List SV → List V → List (Addr × (Nat × Nat)) → List Addr → Prop where
  | nil {k : Nat} : AL K σ H lab k [] [] [] [] [] []
  | mutS {k : Nat} {ms : List Bool} {mo : List (Option Nat)} {as : List SV} {vs : List V} {mu : List (Addr × (Nat × Nat))} {bo : List Addr} {sv : SV} {p : Addr} {i : Nat} {L : List (Addr × Nat)} (o : OG K H (FH H lab) p sv L) (l : ∀ q, q ∈ L → lab q.1 = some (.loc i q.2)) (e : σ[i]? = some (some (.ref p)))
      (n1 : ∀ q, q ∈ L → q.1 ∉ mu.map (·.1)) (n2 : ∀ q, q ∈ L → q.1 ∉ bo) (t : AL K σ H lab (k + 1) ms mo as vs mu bo) : AL K σ H lab k (true :: ms) (some i :: mo) (sv :: as) (.ref p :: vs) ((L.map fun q => (q.1, (k, q.2))) ++ mu) bo
  | mutN {k : Nat} {ms : List Bool} {mo : List (Option Nat)} {as : List SV} {vs : List V} {mu : List (Addr × (Nat × Nat))} {bo : List Addr} {p : Addr} (o : H p = some (.dK [])) (l : lab p = some .far)
      (n1 : p ∉ mu.map (·.1)) (n2 : p ∉ bo) (t : AL K σ H lab (k + 1) ms mo as vs mu bo) : AL K σ H lab k (true :: ms) (none :: mo) (.od [] :: as) (.ref p :: vs) ((p, (k, 0)) :: mu) bo
  | dat {k : Nat} {ms : List Bool} {mo : List (Option Nat)} {as : List SV} {vs : List V} {mu : List (Addr × (Nat × Nat))} {bo : List Addr} {d : D} {v : V} (r : Rep K (FH H lab) d v)
      (t : AL K σ H lab (k + 1) ms mo as vs mu bo) : AL K σ H lab k (false :: ms) mo (.dat d :: as) (v :: vs) mu bo
  | bor {k : Nat} {ms : List Bool} {mo : List (Option Nat)} {as : List SV} {vs : List V} {mu : List (Addr × (Nat × Nat))} {bo : List Addr} {d : D} {a : Addr} {i j : Nat} (r : RepT K H (FH H lab) d (.ref a)) (l : lab a = some (.loc i j)) (n1 : a ∉ mu.map (·.1))
      (t : AL K σ H lab (k + 1) ms mo as vs mu bo) : AL K σ H lab k (false :: ms) mo (.dat d :: as) (.ref a :: vs) mu (a :: bo)
section
variable {X : Cx} {T : Tb} {CT : Ct} {G : Gm} {N : List Str} {sc : Scope}
def EaS (X : Cx) (CT : Ct) (G : Gm) (W : WX) (ms : Es) (t : TA) : Prop := ∀ (x : Bool) (σ : St) (H : Hp) (lab : Lab) (ρ : Env) (n0 : Nat) (k : List SV → Bool → Env → KS.T) (Ψ : RF → Prop) (Q : List V → Hp → Prop), ¬ Ψ .stuck → EnvOk X.K σ H lab ρ →
  (∀ vs H' as fl ρ' lab' mu bo, Stp ms.tch lab H H' → (∀ a, H a ≠ none → lab' a = lab a) → (∀ a l, lab' a = some l → lab a = none → l = .far) → EnvOk X.K σ H' lab' ρ' → AL X.K σ H' lab' n0 ms.modes ms.muts as vs mu bo → (bo ≠ [] → fl = true) →
    (∀ q, q ∈ mu → (∃ i, lab' q.1 = some (.loc i q.2.2) ∧ ms.tch i = true) ∨ (lab' q.1 = some .far ∧ H q.1 = none)) → (∀ a, a ∈ bo → ∃ pl, pl ∈ ms.looks ∧ ∃ j, lab' a = some (.loc pl.1 j)) → Ψ ((k as fl ρ').den G) → Q vs H') →
  (x = true → ∀ c pl cls dx H', Stp ms.tch lab H H' → XOk X.K CT c pl cls dx H' lab → Ψ (.exc c pl) → W cls dx σ H') →
  Ψ ((evaK x ms ρ k).den G) → t σ H Q
def SEa (X : Cx) (CT : Ct) (G : Gm) (es : List Expr) (ms : Es) : Prop := ∀ W, Tk CT X W → ∃ t, PA X es t ∧ EaS X CT G W ms t
theorem sea_nil : SEa X CT G [] .nil := by
  intro W tk
  exact ⟨_, pa_nil, fun x σ H lab ρ n0 k Ψ Q hs En hq hx hp => hq [] H [] false ρ lab [] [] (Stp.refl _ _ _) (fun _ _ => rfl) (fun a l e1 e2 => by rw [e2] at e1; cases e1) En .nil (fun z => (z rfl).elim) (fun q hq => (nomatch hq)) (fun a ha => (nomatch ha)) hp⟩
theorem sea_mv (C : Cok X T CT G N sc) {i : Nat} {r : Es} {x : Str} {pos : Pos} {es : List Expr} (h : nameB N sc i x = true) (hr : SEa X CT G es r) : SEa X CT G (.Name x pos :: es) (.cons (.mv i) r) := by
  intro W tk
  obtain ⟨tr, p2, v2⟩ := hr W tk
  refine ⟨_, pa_cons (C.name h) p2 rfl, fun x σ H lab ρ n0 k Ψ Q hs En hq hx hp => ?_⟩
  have s2 : ∀ {H1 H2}, Stp r.tch lab H1 H2 → Stp (Es.cons (.mv i) r).tch lab H1 H2 := fun s => s.imp fun i h => or_r h
  obtain ⟨hb, hp⟩ := den_unK hs hp
  obtain ⟨sv, hsv, hp⟩ := den_optK hs hp
  rw [Bool.or_eq_false_iff] at hb
  obtain ⟨e1, own⟩ := ownV_some hsv
  obtain ⟨v, e2, oa⟩ := En.at_ i sv e1 (fun z => by rw [z] at own; cases own)
  obtain ⟨p, L, rfl, og, l⟩ := oa.og own
  refine ⟨_, e2, ?_⟩
  refine v2 x σ H lab ρ (n0 + 1) _ Ψ _ hs En (fun vs H' as fl ρ' lab' mu bo st la far E' al bf hm hb' hp1 => ?_) (fun xt c pl cls dx H' s => hx xt c pl cls dx H' (s2 s)) hp
  have hH : ∀ q, q ∈ L → H q.1 ≠ none := fun q hq => En.lok q.1 _ (l q hq)
  have l' : ∀ q, q ∈ L → lab' q.1 = some (.loc i q.2) := fun q hq => (la q.1 (hH q hq)).trans (l q hq)
  have rd : RdLe (FH H lab) (FH H' lab') := rd_of fun a e n => ⟨(la a n).trans e, st.fro a e n⟩
  refine hq _ H' (sv :: as) fl ρ' lab' _ bo (s2 st) la far E' (.mutS (og.move rd fun q hq => st.keep q.1 i q.2 (l q hq) hb.1) l' e2 (fun q hq z => ?_) (fun q hq z => ?_) al) bf (fun q hq' => ?_) hb' hp1
  · obtain ⟨r, hr, er⟩ := List.mem_map.mp z
    rcases hm r hr with ⟨i', e, e'⟩ | ⟨_, e⟩
    · rw [er, l' q hq] at e
      obtain rfl : i = i' := by injection e with e; injection e
      rw [hb.1] at e'; cases e'
    · exact hH q hq (by rw [← er]; exact e)
  · obtain ⟨pl, h1, j, e⟩ := hb' q.1 z
    rw [l' q hq] at e
    obtain rfl : i = pl.1 := by injection e with e; injection e
    have : (r.looks.any fun p => p.1 == pl.1) = true := List.any_eq_true.mpr ⟨pl, h1, by simp⟩
    rw [hb.2] at this; cases this
  · rcases List.mem_append.mp hq' with hq' | hq'
    · obtain ⟨r, hr, rfl⟩ := List.mem_map.mp hq'
      exact .inl ⟨i, l' r hr, or_l (show (i == i) = true by simp)⟩
    · rcases hm q hq' with ⟨i', e, e'⟩ | h
      · exact .inl ⟨i', e, or_r e'⟩
      · exact .inr h
theorem sea_mf {r : Es} {pos : Pos} {es : List Expr} (hr : SEa X CT G es r) : SEa X CT G (.Dict [] [] pos :: es) (.cons .mf r) := by
  intro W tk
  obtain ⟨tr, p2, v2⟩ := hr W tk
  refine ⟨_, pa_cons pe_dnewK p2 rfl, fun x σ H lab ρ n0 k Ψ Q hs En hq hx hp => ?_⟩
  have s2 : ∀ {H1 H2}, Stp r.tch lab H1 H2 → Stp (Es.cons .mf r).tch lab H1 H2 := fun s => s.imp fun i h => or_r h
  intro q hq0
  have lq := lab_new En.lok hq0
  refine v2 x σ _ (hide lab q) ρ (n0 + 1) _ Ψ _ hs (En.hide hq0 notTup_dK) (fun vs H' as fl ρ' lab' mu bo st la far E' al bf hm hb' hp1 => ?_) (fun xt c pl cls dx H' s xo => hx xt c pl cls dx H' (s2 (s.unhide0 En.lok hq0)) xo.any) hp
  have nq : ∀ {a}, H a ≠ none → a ≠ q := fun {a} e z => e (by rw [z]; exact hq0)
  have l' : lab' q = some .far := (la q (by rw [upd_same]; exact fun z => nomatch z)).trans hide_same
  have e' : H' q = some (.dK []) := (st.far q hide_same).trans upd_same
  refine hq _ H' (.od [] :: as) fl ρ' lab' ((q, (n0, 0)) :: mu) bo (s2 (st.unhide0 En.lok hq0)) (fun a n => (la a (by rw [upd_ne (nq n)]; exact n)).trans (hide_ne (nq n))) (fun a l e1 e2 => ?_) E' (.mutN e' l' (fun z => ?_) (fun z => ?_) al) bf (fun z hz => ?_) (fun a ha => ?_) hp1
  · by_cases z : a = q
    · rw [z, l'] at e1; cases e1; rfl
    · exact far a l e1 (by rw [hide_ne z]; exact e2)
  · obtain ⟨y, hy, ey⟩ := List.mem_map.mp z
    have ey : y.1 = q := ey
    subst ey
    rcases hm y hy with ⟨i', e, _⟩ | ⟨_, e⟩
    · rw [l'] at e; cases e
    · rw [upd_same] at e; cases e
  · obtain ⟨pl, h1, j, e⟩ := hb' q z
    rw [l'] at e; cases e
  · rcases List.mem_cons.mp hz with rfl | hz
    · exact .inr ⟨l', hq0⟩
    · rcases hm z hz with ⟨i', e, e'⟩ | ⟨h, e⟩
      · exact .inl ⟨i', e, or_r e'⟩
      · refine .inr ⟨h, ?_⟩
        by_cases w : z.1 = q
        · rw [w, upd_same] at e; cases e
        · rw [upd_ne w] at e; exact e
  · exact hb' a ha
theorem evaK_cons {G : Gm} {x : Bool} {e : E} {r : Es} {ρ : Env} {k : List SV → Bool → Env → KS.T} (h1 : ∀ i, e ≠ .mv i) (h2 : e ≠ .mf) :
    evaK x (.cons e r) ρ k = evK x true e ρ fun d ρ1 => KS.T.un (hitB ρ1 e r.tch) fun _ => evaK x r ρ1 fun vs fl ρ2 => k (.dat d :: vs) (ownE ρ1 e || fl) ρ2 := by
  cases e with
  | mv i => exact (h1 i rfl).elim
  | mf => exact (h2 rfl).elim
  | _ => rfl
theorem modes_cons {e : E} {r : Es} (h1 : ∀ i, e ≠ .mv i) (h2 : e ≠ .mf) : (Es.cons e r).modes = false :: r.modes ∧ (Es.cons e r).muts = r.muts ∧ (∀ p, e.place = some p → (Es.cons e r).looks = p :: r.looks) ∧ ∀ q, q ∈ r.looks → q ∈ (Es.cons e r).looks := by
  cases e with
  | mv i => exact (h1 i rfl).elim
  | mf => exact (h2 rfl).elim
  | var i => exact ⟨rfl, rfl, fun p e => by cases e; rfl, fun q h => List.mem_cons_of_mem _ h⟩
  | fld i f => exact ⟨rfl, rfl, fun p e => by cases e; rfl, fun q h => List.mem_cons_of_mem _ h⟩
  | _ => exact ⟨rfl, rfl, (fun p e => (nomatch e)), fun q h => h⟩
theorem sea_cons {a : E} {r : Es} {e : Expr} {es : List Expr} (h1 : ∀ i, a ≠ .mv i) (h2 : a ≠ .mf) (h3 : starB e = false) (ha : SE X CT G e a) (hr : SEa X CT G es r) : SEa X CT G (e :: es) (.cons a r) := by
  intro W tk
  obtain ⟨ta, p1, v1⟩ := ha W tk
  obtain ⟨tr, p2, v2⟩ := hr W tk
  refine ⟨_, pa_cons p1 p2 (star_cons h3), fun x σ H lab ρ n0 k Ψ Q hs En hq hx hp => ?_⟩
  have s1 : ∀ {H1 H2}, Stp a.tch lab H1 H2 → Stp (Es.cons a r).tch lab H1 H2 := fun s => s.imp fun i h => or_l h
  have s2 : ∀ {H1 H2}, Stp r.tch lab H1 H2 → Stp (Es.cons a r).tch lab H1 H2 := fun s => s.imp fun i h => or_r h
  obtain ⟨m1, m2, m3, m4⟩ := modes_cons (r := r) h1 h2
  rw [evaK_cons (G := G) h1 h2] at hp
  rw [m1, m2] at hq
  refine v1 x true σ H lab ρ _ Ψ _ hs En (fun v H1 d ρ1 st1 E1 r1 _ hp1 => ?_) (fun xt c pl cls dx H' s => hx xt c pl cls dx H' (s1 s)) hp
  obtain ⟨hb, hp1⟩ := den_unK hs hp1
  refine v2 x σ H1 lab ρ1 (n0 + 1) _ Ψ _ hs E1 (fun vs H' as fl ρ' lab' mu bo st la far E' al bf hm hb' hp2 => ?_) (fun xt c pl cls dx H' s => hx xt c pl cls dx H' ((s1 st1).trans (s2 s))) hp1
  have rd : RdLe (FH H1 lab) (FH H' lab') := rd_of fun a e n => ⟨(la a n).trans e, st.fro a e n⟩
  have la' : ∀ a, H a ≠ none → lab' a = lab a := fun a n => la a (st1.mono a n)
  have hm' : ∀ q, q ∈ mu → (∃ i, lab' q.1 = some (.loc i q.2.2) ∧ (Es.cons a r).tch i = true) ∨ (lab' q.1 = some .far ∧ H q.1 = none) := fun q hq => by
    rcases hm q hq with ⟨i', e, e'⟩ | ⟨e, e'⟩
    · exact .inl ⟨i', e, or_r e'⟩
    · refine .inr ⟨e, ?_⟩
      cases z : H q.1 with
      | none => rfl
      | some o => exact ((st1.mono q.1 (by rw [z]; exact fun z => nomatch z)) e').elim
  rcases r1 with r1 | ⟨p, ad, j, hp', ho, rfl, l, r1⟩
  · exact hq (v :: vs) H' (.dat d :: as) _ ρ' lab' mu bo ((s1 st1).trans (s2 st)) la' far E' (.dat (Rep.mono rd _ _ r1) al) (fun z => or_r (bf z)) hm' (fun a ha => let ⟨pl, h, z⟩ := hb' a ha; ⟨pl, m4 _ h, z⟩) hp2
  · have ht : r.tch p.1 = false := by
      unfold hitB at hb
      rw [hp'] at hb
      simp only [ho, Bool.true_and] at hb
      exact hb
    have hH : H1 ad ≠ none := E1.lok ad _ l
    have l' : lab' ad = some (.loc p.1 j) := (la ad hH).trans l
    refine hq (.ref ad :: vs) H' (.dat d :: as) _ ρ' lab' mu (ad :: bo) ((s1 st1).trans (s2 st)) la' far E' (.bor (r1.move (st.keep ad _ _ l ht) rd) l' (fun z => ?_) al) (fun z => or_l ?_) hm' (fun b hb2 => ?_) hp2
    · obtain ⟨q, hq', rfl⟩ := List.mem_map.mp z
      rcases hm q hq' with ⟨i', e, e'⟩ | ⟨_, e⟩
      · rw [l'] at e
        cases e
        rw [ht] at e'; cases e'
      · exact hH e
    · unfold ownE
      rw [hp']
      exact ho
    · rcases List.mem_cons.mp hb2 with rfl | hb2
      · exact ⟨p, by rw [m3 p hp']; exact List.mem_cons_self .., j, l'⟩
      · exact let ⟨pl, h, z⟩ := hb' b hb2; ⟨pl, m4 _ h, z⟩
end
end KS

set_option Elab.async false
set_option linter.all false
set_option maxRecDepth 100000
namespace KS
open PySem L2
/-- the labels that the called def sees -/
def lab2 (lab : Lab) (mu : List (Addr × (Nat × Nat))) (bo : List Addr) : Lab := fun a => match mu.lookup a with
  | some k => some (.loc k.1 k.2)
  | none => if a ∈ bo then none else (lab a).map fun _ => Lb.far
theorem lookup_mem {β : Type} : ∀ {mu : List (Addr × β)} {a : Addr} {k : β}, mu.lookup a = some k → (a, k) ∈ mu
  | [], _, _, h => by cases h
  | (b, j) :: mu, a, k, h => by
    rw [List.lookup_cons] at h
    split at h
    · rename_i e
      cases h
      have : a = b := by simpa using e
      subst this
      exact List.mem_cons_self ..
    · exact List.mem_cons_of_mem _ (lookup_mem h)
theorem lookup_none {β : Type} : ∀ {mu : List (Addr × β)} {a : Addr}, mu.lookup a = none → ∀ q, q ∈ mu → q.1 ≠ a
  | [], _, _, _, h => (nomatch h)
  | (b, j) :: mu, a, h, q, hq => by
    rw [List.lookup_cons] at h
    split at h
    · cases h
    · rename_i e
      rcases List.mem_cons.mp hq with rfl | hq
      · intro z
        subst z
        simp at e
      · exact lookup_none h q hq
theorem mem_lookup {β : Type} : ∀ {mu : List (Addr × β)} {a : Addr} {k : β}, (∀ q r, q ∈ mu → r ∈ mu → q.1 = r.1 → q.2 = r.2) → (a, k) ∈ mu → mu.lookup a = some k
  | [], _, _, _, h => (nomatch h)
  | (b, j) :: mu, a, k, nd, h => by
    rw [List.lookup_cons]
    by_cases e : a = b
    · subst e
      have : j = k := nd (a, j) (a, k) (List.mem_cons_self ..) h rfl
      subst this
      simp
    · have e' : (a == b) = false := by simpa using e
      rw [e']
      refine mem_lookup (fun q r hq hr => nd q r (List.mem_cons_of_mem _ hq) (List.mem_cons_of_mem _ hr)) ?_
      rcases List.mem_cons.mp h with h | h
      · cases h; exact (e rfl).elim
      · exact h
section
variable {K : PySem.W.Frag} {σ : St} {H H' : Hp} {lab L : Lab} {ρ : Env} {t : Nat → Bool} {p : Addr} {i n0 : Nat} {ms : List Bool} {mo : List (Option Nat)} {as : List SV} {vs : List V} {mu : List (Addr × (Nat × Nat))} {bo : List Addr}
theorem AL.nodup (h : AL K σ H lab n0 ms mo as vs mu bo) : ∀ q r, q ∈ mu → r ∈ mu → q.1 = r.1 → q.2 = r.2 := by
  induction h with
  | nil => exact fun q r h => (nomatch h)
  | mutS o l e n1 n2 t ih =>
    intro q r hq hr eq
    rcases List.mem_append.mp hq with hq | hq
    · obtain ⟨q, hq', rfl⟩ := List.mem_map.mp hq
      rcases List.mem_append.mp hr with hr | hr
      · obtain ⟨r, hr', rfl⟩ := List.mem_map.mp hr
        have e1 := l q hq'
        have e2 := l r hr'
        have eq : q.1 = r.1 := eq
        rw [eq, e2] at e1
        have e3 : r.2 = q.2 := by injection e1 with e1; injection e1
        show (_, q.2) = (_, r.2)
        rw [e3]
      · exact (n1 q hq' (List.mem_map.mpr ⟨r, hr, eq.symm⟩)).elim
    · rcases List.mem_append.mp hr with hr | hr
      · obtain ⟨r, hr', rfl⟩ := List.mem_map.mp hr
        exact (n1 r hr' (List.mem_map.mpr ⟨q, hq, eq⟩)).elim
      · exact ih q r hq hr eq
  | mutN o l n1 n2 t ih =>
    intro q r hq hr eq
    rcases List.mem_cons.mp hq with hq | hq
    · rcases List.mem_cons.mp hr with hr | hr
      · rw [hq, hr]
      · exact (n1 (List.mem_map.mpr ⟨r, hr, by rw [← eq, hq]⟩)).elim
    · rcases List.mem_cons.mp hr with hr | hr
      · exact (n1 (List.mem_map.mpr ⟨q, hq, by rw [eq, hr]⟩)).elim
      · exact ih q r hq hr eq
  | dat r t ih => exact ih
  | bor r l n1 t ih => exact ih
theorem AL.disj (h : AL K σ H lab n0 ms mo as vs mu bo) : ∀ q, q ∈ mu → q.1 ∉ bo := by
  induction h with
  | nil => exact fun q h => (nomatch h)
  | mutS o l e n1 n2 t ih =>
    intro q hq
    rcases List.mem_append.mp hq with hq | hq
    · obtain ⟨q, hq', rfl⟩ := List.mem_map.mp hq
      exact n2 q hq'
    · exact ih q hq
  | mutN o l n1 n2 t ih =>
    intro q hq
    rcases List.mem_cons.mp hq with rfl | hq
    · exact n2
    · exact ih q hq
  | dat r t ih => exact ih
  | bor r l n1 t ih =>
    intro q hq z
    rcases List.mem_cons.mp z with e | z
    · exact n1 (by rw [← e]; exact List.mem_map.mpr ⟨q, hq, rfl⟩)
    · exact ih q hq z
theorem AL.fit (h : AL K σ H lab n0 ms mo as vs mu bo) : fitA ms as = true := by
  induction h with
  | nil => rfl
  | mutS o l e n1 n2 t ih => show (_ && _) = true; rw [o.own, ih]; rfl
  | mutN o l n1 n2 t ih => show (_ && _) = true; rw [ih]; rfl
  | dat r t ih => exact ih
  | bor r l n1 t ih => exact ih
theorem AL.mode (h : AL K σ H lab n0 ms mo as vs mu bo) : ∀ q, q ∈ mu → n0 ≤ q.2.1 ∧ ms[q.2.1 - n0]? = some true := by
  have go : ∀ {k : Nat} {b : Bool} {ms : List Bool} {m : Nat}, (k + 1 ≤ m ∧ ms[m - (k + 1)]? = some true) → k ≤ m ∧ (b :: ms)[m - k]? = some true := fun {k b ms m} h => by
    refine ⟨by omega, ?_⟩
    have : m - k = (m - (k + 1)) + 1 := by omega
    rw [this, List.getElem?_cons_succ]
    exact h.2
  induction h with
  | nil => exact fun q h => (nomatch h)
  | mutS o l e n1 n2 t ih =>
    intro q hq
    rcases List.mem_append.mp hq with hq | hq
    · obtain ⟨q, hq', rfl⟩ := List.mem_map.mp hq
      exact ⟨Nat.le_refl _, by simp⟩
    · exact go (ih q hq)
  | mutN o l n1 n2 t ih =>
    intro q hq
    rcases List.mem_cons.mp hq with rfl | hq
    · exact ⟨Nat.le_refl _, by simp⟩
    · exact go (ih q hq)
  | dat r t ih => exact fun q hq => go (ih q hq)
  | bor r l n1 t ih => exact fun q hq => go (ih q hq)
theorem RepT.rep {F : Hp} {a : Addr} {d : D} (e : L a = none) (rd : RdLe F (FH H L)) (h : RepT K H F d (.ref a)) : Rep K (FH H L) d (.ref a) := by
  have fe : FH H L a = H a := FH_of e
  cases d with
  | tup ds =>
    obtain ⟨p, xs, ep, e2, e3⟩ := h
    cases ep
    rw [Rep]
    refine ⟨a, xs, rfl, ?_, RepAll.mono rd _ _ e3⟩
    rcases e2 with e2 | e2
    · left; unfold Rd at e2 ⊢; rw [fe]; exact e2
    · exact .inr e2
  | lst ds =>
    obtain ⟨p, xs, ep, e2, e3⟩ := h
    cases ep
    rw [Rep]
    exact ⟨a, xs, rfl, fe.trans e2, RepAll.mono rd _ _ e3⟩
  | dic ds =>
    obtain ⟨p, xs, ep, e2, e3⟩ := h
    cases ep
    rw [Rep]
    refine ⟨a, xs, rfl, ?_, RepKV.mono rd _ _ e3⟩
    unfold Rd at e2 ⊢; rw [fe]; exact e2
  | scr ns =>
    obtain ⟨p, ep, e2⟩ := h
    cases ep
    rw [Rep]
    refine ⟨a, rfl, ?_⟩
    rcases e2 with e2 | e2
    · left; unfold Rd at e2 ⊢; rw [fe]; exact e2
    · exact .inr e2
  | non => exact Rep.mono rd _ _ (show Rep K _ .non _ from h)
  | bl b => exact Rep.mono rd _ _ (show Rep K _ (.bl b) _ from h)
  | int b => exact Rep.mono rd _ _ (show Rep K _ (.int b) _ from h)
  | str b => exact Rep.mono rd _ _ (show Rep K _ (.str b) _ from h)
  | exc c l => exact Rep.mono rd _ _ (show Rep K _ (.exc c l) _ from h)
theorem AL.aok (h : AL K σ H lab n0 ms mo as vs mu bo) : (∀ q, q ∈ mu → L q.1 = some (.loc q.2.1 q.2.2)) → (∀ a, a ∈ bo → L a = none) → (∀ a, lab a = none → L a = none) → AOk K H L n0 as vs := by
  intro h1 h2 h3
  have rd : RdLe (FH H lab) (FH H L) := rd_of fun a e n => ⟨h3 a e, rfl⟩
  induction h with
  | nil => trivial
  | mutS o l e n1 n2 t ih => exact ⟨(o.move rd fun _ _ => rfl).oat (fun q hq => h1 (q.1, (_, q.2)) (List.mem_append_left _ (List.mem_map.mpr ⟨q, hq, rfl⟩))), ih (fun q hq => h1 q (List.mem_append_right _ hq)) h2⟩
  | mutN o l n1 n2 t ih => exact ⟨(show OG K H (FH H L) _ (.od []) _ from ⟨rfl, [], o, RepKV.nil⟩).oat (fun q hq => by rcases List.mem_singleton.mp hq with rfl; exact h1 _ (List.mem_cons_self ..)), ih (fun q hq => h1 q (List.mem_cons_of_mem _ hq)) h2⟩
  | dat r t ih => exact ⟨Rep.mono rd _ _ r, ih h1 h2⟩
  | bor r l n1 t ih => exact ⟨r.rep (h2 _ (List.mem_cons_self ..)) rd, ih h1 fun a ha => h2 a (List.mem_cons_of_mem _ ha)⟩
theorem AL.labs (h : AL K σ H lab n0 ms mo as vs mu bo) : (∀ q, q ∈ mu → lab q.1 ≠ none) ∧ ∀ a, a ∈ bo → ∃ i j, lab a = some (.loc i j) := by
  induction h with
  | nil => exact ⟨fun q h => (nomatch h), fun a h => (nomatch h)⟩
  | mutS o l e n1 n2 t ih =>
    refine ⟨fun q hq => ?_, ih.2⟩
    rcases List.mem_append.mp hq with hq | hq
    · obtain ⟨q, hq', rfl⟩ := List.mem_map.mp hq
      show lab q.1 ≠ none
      rw [l q hq']; exact fun z => nomatch z
    · exact ih.1 q hq
  | mutN o l n1 n2 t ih =>
    refine ⟨fun q hq => ?_, ih.2⟩
    rcases List.mem_cons.mp hq with rfl | hq
    · rw [l]; exact fun z => nomatch z
    · exact ih.1 q hq
  | dat r t ih => exact ih
  | bor r l n1 t ih =>
    refine ⟨ih.1, fun a ha => ?_⟩
    rcases List.mem_cons.mp ha with rfl | ha
    · exact ⟨_, _, l⟩
    · exact ih.2 a ha
/-- what the name j holds behind the call: what it held, or what the call made of it -/
def BackAt (K : PySem.W.Frag) (σ : St) (H' : Hp) (lab L : Lab) (mu : List (Addr × (Nat × Nat))) (us : List SV) (n0 j : Nat) (sv : SV) : Prop :=
  ∃ k p L', n0 ≤ k ∧ (∀ a j', (a, (k, j')) ∈ mu → lab a = some (.loc j j')) ∧ σ[j]? = some (some (.ref p)) ∧ OG K H' (FH H' L) p sv L' ∧ (∀ q, q ∈ L' → L q.1 = some (.loc k q.2)) ∧ sv ∈ us
theorem AL.back (h : AL K σ H lab n0 ms mo as vs mu bo) : ∀ {us : List SV} {ρ ρ2 : Env}, OutsOk K H' L ms n0 us vs → putBack mo us ρ = some ρ2 →
    ρ2.length = ρ.length ∧ ∀ j sv, ρ2[j]? = some sv → (ρ[j]? = some sv ∧ some j ∉ mo) ∨ BackAt K σ H' lab L mu us n0 j sv := by
  induction h with
  | nil =>
    intro us ρ ρ2 o e
    cases us with
    | nil => cases e; exact ⟨rfl, fun j sv e => .inl ⟨e, fun z => (nomatch z)⟩⟩
    | cons _ _ => exact o.elim
  | @mutS k ms mo as vs mu bo sv p i Lc o l e n1 n2 t ih =>
    intro us ρ ρ2 oo e'
    cases us with
    | nil => exact oo.elim
    | cons u us =>
      obtain ⟨o1, o2, o3⟩ := oo
      obtain ⟨l1, l2⟩ := ih o3 (show putBack mo us (ρ.set i u) = some ρ2 from e')
      obtain ⟨p', L', ep, og, lp⟩ := o1.og o2
      cases ep
      refine ⟨by rw [l1, List.length_set], fun j sv' ej => ?_⟩
      rcases l2 j sv' ej with ⟨e2, e3⟩ | ⟨k', p2, L2', q0, q1, q2, q3, q4, q5⟩
      · by_cases hj : j = i
        · subst hj
          by_cases hi : j < ρ.length
          · rw [List.getElem?_set_self hi] at e2
            cases e2
            refine .inr ⟨k, p, L', Nat.le_refl _, fun a j' ha => ?_, e, og, lp, List.mem_cons_self ..⟩
            rcases List.mem_append.mp ha with ha | ha
            · obtain ⟨q, hq, eq⟩ := List.mem_map.mp ha
              cases eq
              exact l q hq
            · have := (t.mode _ ha).1
              have : k + 1 ≤ k := this
              omega
          · rw [List.getElem?_eq_none (by rw [List.length_set]; omega)] at e2; cases e2
        · rw [List.getElem?_set_ne (Ne.symm hj)] at e2
          refine .inl ⟨e2, fun z => ?_⟩
          rcases List.mem_cons.mp z with z | z
          · cases z; exact hj rfl
          · exact e3 z
      · refine .inr ⟨k', p2, L2', by omega, fun a j' ha => ?_, q2, q3, q4, List.mem_cons_of_mem _ q5⟩
        rcases List.mem_append.mp ha with ha | ha
        · obtain ⟨q, hq, eq⟩ := List.mem_map.mp ha
          cases eq
          omega
        · exact q1 a j' ha
  | @mutN k ms mo as vs mu bo p o l n1 n2 t ih =>
    intro us ρ ρ2 oo e'
    cases us with
    | nil => exact oo.elim
    | cons u us =>
      obtain ⟨o1, o2, o3⟩ := oo
      obtain ⟨l1, l2⟩ := ih o3 (show putBack mo us ρ = some ρ2 from e')
      refine ⟨l1, fun j sv' ej => ?_⟩
      rcases l2 j sv' ej with ⟨e2, e3⟩ | ⟨k', p2, L2', q0, q1, q2, q3, q4, q5⟩
      · refine .inl ⟨e2, fun z => ?_⟩
        rcases List.mem_cons.mp z with z | z
        · cases z
        · exact e3 z
      · refine .inr ⟨k', p2, L2', by omega, fun a j' ha => ?_, q2, q3, q4, List.mem_cons_of_mem _ q5⟩
        rcases List.mem_cons.mp ha with ha | ha
        · cases ha
          omega
        · exact q1 a j' ha
  | dat r t ih =>
    intro us ρ ρ2 oo e'
    obtain ⟨l1, l2⟩ := ih (by unfold OutsOk at oo; exact oo) e'
    refine ⟨l1, fun j sv' ej => ?_⟩
    rcases l2 j sv' ej with h | ⟨k', p2, L2', q0, q1⟩
    · exact .inl h
    · exact .inr ⟨k', p2, L2', by omega, q1⟩
  | bor r l n1 t ih =>
    intro us ρ ρ2 oo e'
    obtain ⟨l1, l2⟩ := ih (by unfold OutsOk at oo; exact oo) e'
    refine ⟨l1, fun j sv' ej => ?_⟩
    rcases l2 j sv' ej with h | ⟨k', p2, L2', q0, q1⟩
    · exact .inl h
    · exact .inr ⟨k', p2, L2', by omega, q1⟩
/-- a mutable slot is told by its address -/
theorem AL.mo_of (h : AL K σ H lab n0 ms mo as vs mu bo) : ∀ q j j', q ∈ mu → lab q.1 = some (.loc j j') → some j ∈ mo := by
  induction h with
  | nil => exact fun q j j' h => (nomatch h)
  | @mutS k ms mo as vs mu bo sv p i Lc o l e n1 n2 t ih =>
    intro q j j' hq e'
    rcases List.mem_append.mp hq with hq | hq
    · obtain ⟨q, hq', rfl⟩ := List.mem_map.mp hq
      have e' := (l q hq').symm.trans e'
      have : i = j := by injection e' with e'; injection e'
      rw [this]
      exact List.mem_cons_self ..
    · exact List.mem_cons_of_mem _ (ih q j j' hq e')
  | mutN o l n1 n2 t ih =>
    intro q j j' hq e'
    rcases List.mem_cons.mp hq with rfl | hq
    · have e' := l.symm.trans e'
      cases e'
    · exact List.mem_cons_of_mem _ (ih q j j' hq e')
  | dat r t ih => exact ih
  | bor r l n1 t ih => exact ih
mutual
theorem flat_rep (tf : TupFree lab H) : ∀ (d : D) (v : V), d.flatT = true → Rep K (FH H L) d v → Rep K (FH H lab) d v
  | .non, v, _, h => by rw [Rep] at h ⊢; exact h
  | .bl _, v, _, h => by rw [Rep] at h ⊢; exact h
  | .int _, v, _, h => by rw [Rep] at h ⊢; exact h
  | .str _, v, _, h => by rw [Rep] at h ⊢; exact h
  | .tup ds, v, f, h => by
    rw [Rep] at h ⊢
    obtain ⟨a, xs, e, s, r⟩ := h
    exact ⟨a, xs, e, sqT_free tf (FH_le.seqT s), flat_repAll tf ds xs (by rw [D.flatT] at f; exact f) r⟩
  | .lst _, v, f, _ => by simp [D.flatT] at f
  | .dic _, v, f, _ => by simp [D.flatT] at f
  | .scr _, v, f, _ => by simp [D.flatT] at f
  | .exc _ _, v, f, _ => by simp [D.flatT] at f
theorem flat_repAll (tf : TupFree lab H) : ∀ (ds : List D) (vs : List V), D.flatTAll ds = true → RepAll K (FH H L) ds vs → RepAll K (FH H lab) ds vs
  | [], vs, _, h => by rw [RepAll] at h ⊢; exact h
  | d :: ds, vs, f, h => by
    rw [RepAll] at h ⊢
    obtain ⟨x, xs, e, r, t⟩ := h
    rw [D.flatTAll, Bool.and_eq_true] at f
    exact ⟨x, xs, e, flat_rep tf d x f.1 r, flat_repAll tf ds xs f.2 t⟩
end
theorem flat_repKV (tf : TupFree lab H) : ∀ (ds : List (Ky × D)) (vs : List (Key × V)), (ds.all fun kv => D.flatT kv.2) = true → RepKV K (FH H L) ds vs → RepKV K (FH H lab) ds vs
  | [], vs, _, h => by rw [RepKV] at h ⊢; exact h
  | (k, d) :: ds, vs, f, h => by
    rw [RepKV] at h ⊢
    obtain ⟨x, xs, e, ky, r, t⟩ := h
    rw [List.all_cons, Bool.and_eq_true] at f
    exact ⟨x, xs, e, ky, flat_rep tf d x f.1 r, flat_repKV tf ds xs f.2 t⟩
theorem flat_fg (tf : TupFree lab H) : ∀ {fs : List (Nat × SV)} {hs : List (Str × V)} {Lc : List (Addr × Nat)}, (fs.all fun q => q.2.flat1) = true → FG K H (FH H L) fs hs Lc → FG K H (FH H lab) fs hs Lc
  | [], [], [], _, _ => trivial
  | [], [], _ :: _, _, h => h.elim
  | [], _ :: _, _, _, h => h.elim
  | (f, .dat d) :: fs, [], _, _, h => h.elim
  | (f, .ol d) :: fs, [], _, _, h => h.elim
  | (f, .od d) :: fs, [], _, _, h => h.elim
  | (f, .dead) :: fs, [], _, _, h => h.elim
  | (f, .ob _ _) :: fs, [], _, _, h => h.elim
  | (f, .dead) :: fs, _ :: _, _, _, h => h.elim
  | (f, .ob _ _) :: fs, _ :: _, _, _, h => h.elim
  | (f, .dat d) :: fs, (x, v) :: hs, Lc, e, h => by
    rw [List.all_cons, Bool.and_eq_true] at e
    obtain ⟨h1, h2, h3⟩ := h
    exact ⟨h1, flat_rep tf d v e.1 h2, flat_fg tf e.2 h3⟩
  | (f, .ol ds) :: fs, (x, v) :: hs, Lc, e, h => by
    rw [List.all_cons, Bool.and_eq_true] at e
    obtain ⟨h1, q, xs, L', rfl, h2, h3, h4, h5⟩ := h
    exact ⟨h1, q, xs, L', rfl, h2, h3, flat_repAll tf _ _ e.1 h4, flat_fg tf e.2 h5⟩
  | (f, .od ds) :: fs, (x, v) :: hs, Lc, e, h => by
    rw [List.all_cons, Bool.and_eq_true] at e
    obtain ⟨h1, q, xs, L', rfl, h2, h3, h4, h5⟩ := h
    exact ⟨h1, q, xs, L', rfl, h2, h3, flat_repKV tf _ _ e.1 h4, flat_fg tf e.2 h5⟩
theorem flat_og (tf : TupFree lab H) {sv : SV} {Lc : List (Addr × Nat)} (f : sv.flatE = true) (h : OG K H (FH H L) p sv Lc) : OG K H (FH H lab) p sv Lc := by
  cases sv with
  | ol ds =>
    obtain ⟨e0, xs, e1, e2⟩ := h
    exact ⟨e0, xs, e1, flat_repAll tf _ _ f e2⟩
  | od ds =>
    obtain ⟨e0, xs, e1, e2⟩ := h
    exact ⟨e0, xs, e1, flat_repKV tf _ _ f e2⟩
  | ob c fs =>
    obtain ⟨hs, L', e1, e2, e3, e4⟩ := h
    exact ⟨hs, L', e1, e2, e3, flat_fg tf f e4⟩
  | _ => exact h.elim
end
section
variable {X : Cx} {T : Tb} {CT : Ct} {G : Gm} {N : List Str} {sc : Scope}
theorem den_call {f : Nat} {as : List SV} {k : RF → KS.T} {Ψ : RF → Prop} (h : Ψ ((KS.T.call f as k).den G)) : Ψ ((k (G f as)).den G) := h
theorem se_call (C : Cok X T CT G N sc) {f : Nat} {a : E} {r : Es} {e : Expr} {es : List Expr} {x : Str} {p pos : Pos} (hf : T.fn f = some x) (hm : (Es.cons a r).modes = T.modes f) (hg : glB sc x = true) (hd : dbgB x = true) (h1 : starB e = false) (h2 : es.all (fun e => !starB e) = true)
    (ha : SEa X CT G (e :: es) (.cons a r)) : SE X CT G (.Call (.Name x p) (e :: es) [] pos) (.call f (.cons a r)) := by
  intro W tk
  obtain ⟨t, p1, v1⟩ := ha W tk
  obtain ⟨A, fd, ps, kk, c1, c2, c3, c4, c5⟩ := C.fn f x hf
  have hb : (backTo pos (starEach es X.env)).any (·.1) = false := by
    clear ha p1
    induction es with
    | nil => rfl
    | cons e es ih =>
      rw [List.all_cons, Bool.and_eq_true] at h2
      rw [star_cons (by simpa using h2.1)]
      show (false || _) = false
      rw [Bool.false_or]
      exact ih h2.2
  refine ⟨_, pe_callD c2 c3 (C.glo hg) c1 c4 c5 (fun σ => passM tk σ) p1 (dbg_of hd).1 (star_cons h1) hb, fun xx bb σ H lab ρ k Ψ Q hs En hq hx hp => ?_⟩
  refine v1 xx σ H lab ρ 0 _ Ψ _ hs En (fun vs H1 as fl ρ1 lab1 mu bo st la far E1 al bf hmu hbo hp1 => ?_) hx hp
  rw [hm] at al
  rw [List.append_nil]
  have nd := al.nodup
  have L1 : ∀ q, q ∈ mu → lab2 lab1 mu bo q.1 = some (.loc q.2.1 q.2.2) := fun q hq => by unfold lab2; rw [mem_lookup nd hq]
  have L2 : ∀ a, a ∈ bo → lab2 lab1 mu bo a = none := fun a ha => by
    unfold lab2
    cases q : mu.lookup a with
    | some k => exact (al.disj _ (lookup_mem q) ha).elim
    | none => exact if_pos ha
  have L3 : ∀ a, lab1 a = none → lab2 lab1 mu bo a = none := fun a ha => by
    unfold lab2
    cases q : mu.lookup a with
    | some k => exact (al.labs.1 _ (lookup_mem q) ha).elim
    | none =>
      show (if a ∈ bo then none else (lab1 a).map fun _ => Lb.far) = none
      rw [ha]
      split <;> rfl
  have L4 : ∀ a l, lab2 lab1 mu bo a = some l → lab1 a ≠ none ∧ ((∃ k, (a, k) ∈ mu ∧ l = .loc k.1 k.2) ∨ (l = .far ∧ (∀ q, q ∈ mu → q.1 ≠ a))) := fun a l h => by
    unfold lab2 at h
    cases q : mu.lookup a with
    | some k =>
      rw [q] at h
      cases h
      exact ⟨al.labs.1 _ (lookup_mem q), .inl ⟨k, lookup_mem q, rfl⟩⟩
    | none =>
      rw [q] at h
      have h : (if a ∈ bo then none else (lab1 a).map fun _ => Lb.far) = some l := h
      split at h
      · cases h
      · obtain ⟨l', e1, e2⟩ := Option.map_eq_some_iff.mp h
        exact ⟨(by rw [e1]; exact (fun z => nomatch z)), .inr ⟨e2.symm, lookup_none q⟩⟩
  have L5 : ∀ a, lab2 lab1 mu bo a = none → (∀ q, q ∈ mu → q.1 ≠ a) ∧ (lab1 a = none ∨ a ∈ bo) := fun a h => by
    unfold lab2 at h
    cases q : mu.lookup a with
    | some k => rw [q] at h; cases h
    | none =>
      rw [q] at h
      have h : (if a ∈ bo then none else (lab1 a).map fun _ => Lb.far) = none := h
      refine ⟨lookup_none q, ?_⟩
      split at h
      · exact .inr (by assumption)
      · left
        cases e : lab1 a with
        | none => rfl
        | some l => rw [e] at h; cases h
  -- what the call leaves as it was
  have keep : ∀ H2, Stp (fun i => decide ((T.modes f)[i]? = some true)) (lab2 lab1 mu bo) H1 H2 → ∀ a, H1 a ≠ none → (∀ q, q ∈ mu → q.1 ≠ a) → H2 a = H1 a := fun H2 s a n hn => by
    cases e : lab2 lab1 mu bo a with
    | none => exact s.fro a e n
    | some l =>
      rcases (L4 a l e).2 with ⟨k, hk, _⟩ | ⟨rfl, _⟩
      · exact (hn _ hk rfl).elim
      · exact s.far a e
  have stp : ∀ H2, Stp (fun i => decide ((T.modes f)[i]? = some true)) (lab2 lab1 mu bo) H1 H2 → Stp (KS.E.call f (.cons a r)).tch lab H H2 := fun H2 s => by
    refine ⟨fun b e n => ?_, fun b i j e n => ?_, fun b e => ?_, fun b n => s.mono b (st.mono b n)⟩
    · rw [keep H2 s b (st.mono b n) (fun q hq z => ?_), st.fro b e n]
      rcases hmu q hq with ⟨i, e', _⟩ | ⟨_, e'⟩
      · rw [z, la b n, e] at e'; cases e'
      · rw [z] at e'; exact n e'
    · have hb := En.lok b _ e
      rw [keep H2 s b (st.mono b hb) (fun q hq z => ?_), st.keep b i j e n]
      rcases hmu q hq with ⟨i', e', e2⟩ | ⟨_, e'⟩
      · rw [z, la b hb, e] at e'
        cases e'
        have n : (Es.cons a r).tch i = false := n
        rw [n] at e2; cases e2
      · rw [z] at e'; exact hb e'
    · have hb := En.lok b _ e
      rw [keep H2 s b (st.mono b hb) (fun q hq z => ?_), st.far b e]
      rcases hmu q hq with ⟨i', e', e2⟩ | ⟨_, e'⟩
      · rw [z, la b hb, e] at e'; cases e'
      · rw [z] at e'; exact hb e'
  replace hp1 := den_call hp1
  refine ⟨lab2 lab1 mu bo, as, fun b l e => ?_, fun b l xs e rr => ?_, al.aok L1 L2 L3, al.fit, fun b i j e => ?_, ?_⟩
  · obtain ⟨h, _⟩ := L4 b l e
    cases e' : lab1 b with
    | none => exact (h e').elim
    | some l' => exact E1.lok b l' e'
  · obtain ⟨h, _⟩ := L4 b l e
    cases e' : lab1 b with
    | none => exact (h e').elim
    | some l' => exact E1.tf b l' xs e' rr
  · rcases (L4 b _ e).2 with ⟨k, hk, h⟩ | ⟨h, _⟩
    · cases h
      have := (al.mode _ hk).2
      simpa using this
    · cases h
  · cases hG : G f as with
    | stuck =>
      rw [hG] at hp1
      exact (hs hp1).elim
    | exc c pl =>
      rw [hG] at hp1
      cases xx with
      | false => exact (hs hp1).elim
      | true =>
        show ∀ cls dx H', _ → _ → _
        intro cls dx H2 s xo
        exact hx rfl c pl cls dx H2 (stp H2 s) xo.any hp1
    | ok d us =>
      rw [hG] at hp1
      obtain ⟨hfl, hp1⟩ := den_unK hs hp1
      obtain ⟨ρ2, hback, hp1⟩ := den_optK hs hp1
      show ∀ v H', _ → _ → _ → _ → _ → _
      intro v H2 s lok2 tf2 rr oo
      obtain ⟨len2, back⟩ := al.back oo hback
      -- nothing but the labels of mu has changed
      have lab_of : ∀ b l, lab b = some l → lab1 b = some l := fun b l e => (la b (En.lok b l e)).trans e
      have tfl : TupFree lab H2 := fun b l xs e rd => by
        by_cases hq : ∃ q, q ∈ mu ∧ q.1 = b
        · obtain ⟨q, hq, rfl⟩ := hq
          exact tf2 q.1 _ xs (L1 q hq) rd
        · have hn : ∀ q, q ∈ mu → q.1 ≠ b := fun q h z => hq ⟨q, h, z⟩
          have e1 := lab_of b l e
          have := keep H2 s b (E1.lok b l e1) hn
          unfold Rd at rd
          rw [this] at rd
          exact E1.tf b l xs e1 rd
      have none_of : ∀ b, lab1 b = none → lab b = none := fun b e => by
        cases e' : lab b with
        | none => rfl
        | some l => rw [lab_of b l e'] at e; cases e
      have rdk : RdLe (FH H1 lab1) (FH H2 lab) := rd_of fun b e n => ⟨none_of b e, keep H2 s b n fun q hq z => al.labs.1 q hq (by rw [z]; exact e)⟩
      -- the result, and what was changed, without what was looked at
      have flat : bo ≠ [] → d.flatT = true ∧ us.all SV.flatE = true := fun h => by
        rw [bf h, Bool.true_and] at hfl
        have : (d.flatT && us.all SV.flatE) = true := by simpa using hfl
        rwa [Bool.and_eq_true] at this
      have rd2 : bo = [] → RdLe (FH H2 (lab2 lab1 mu bo)) (FH H2 lab) := fun h => rd_of fun b e n => by
        refine ⟨?_, rfl⟩
        rcases (L5 b e).2 with e | e
        · exact none_of b e
        · rw [h] at e; cases e
      have rep : Rep X.K (FH H2 lab) d v := by
        by_cases hb : bo = []
        · exact Rep.mono (rd2 hb) _ _ rr
        · exact flat_rep tfl d v (flat hb).1 rr
      refine hq v H2 d ρ2 (stp H2 s) ⟨(stp H2 s).lab En.lok, tfl, by rw [len2, E1.len], fun i sv e n => ?_⟩ (.inl rep) (fun _ => rep) hp1
      rcases back i sv e with ⟨e1, e2⟩ | ⟨k', p2, L2', _, q1, q3, q4, q6, q5⟩
      · obtain ⟨u, u1, u2⟩ := E1.at_ i sv e1 n
        refine ⟨u, u1, u2.move (fun b j lb => ?_) rdk⟩
        have hl : lab b = some (.loc i j) := by
          cases e' : lab b with
          | none => cases far b _ lb e'
          | some l => rw [lab_of b l e'] at lb; exact lb
        refine ⟨hl, keep H2 s b (E1.lok b _ lb) fun q hq z => ?_⟩
        rcases hmu q hq with ⟨i', e', _⟩ | ⟨e', _⟩
        · rw [z, lb] at e'
          cases e'
          exact e2 (al.mo_of q i _ hq (by rw [z]; exact lb))
        · rw [z, lb] at e'; cases e'
      · have hl : ∀ q, q ∈ L2' → lab q.1 = some (.loc i q.2) := fun q hq => by
          rcases (L4 q.1 _ (q6 q hq)).2 with ⟨k3, hk, h⟩ | ⟨h, _⟩
          · have e3 : k' = k3.1 ∧ q.2 = k3.2 := by
              injection h with h1 h2
              exact ⟨h1, h2⟩
            obtain ⟨k3a, k3b⟩ := k3
            obtain ⟨rfl, e4⟩ := e3
            have e4 : q.2 = k3b := e4
            have q2 := q1 q.1 k3b hk
            rw [e4]
            cases e' : lab q.1 with
            | none => cases far _ _ q2 e'
            | some l => rw [lab_of _ l e'] at q2; exact q2
          · cases h
        refine ⟨_, q3, ?_⟩
        by_cases hb : bo = []
        · exact (q4.move (rd2 hb) fun _ _ => rfl).oat hl
        · exact (flat_og tfl (List.all_eq_true.mp (flat hb).2 _ q5) q4).oat hl
end
end KS

set_option Elab.async false
set_option linter.all false
set_option maxRecDepth 100000
namespace KS
open PySem L2
/-! ### targets -/
section
variable {K : PySem.W.Frag} {σ : St} {H H' : Hp} {lab lab' : Lab} {ρ ρ' : Env}
def EgS (K : PySem.W.Frag) (tg : List Nat) (g : TG) : Prop := ∀ (v : V) (d : D) (σ : St) (H : Hp) (lab : Lab) (ρ ρ' : Env) (Q : St → Hp → Prop), EnvOk K σ H lab ρ → Rep K (FH H lab) d v → bindT tg d ρ = some ρ' →
  (∀ σ', EnvOk K σ' H lab ρ' → wipe σ' tg = wipe σ tg → Q σ' H) → g v σ H Q
theorem wipe_set {i : Nat} {o : Option V} : ∀ {tg : List Nat} {σ : St}, i ∈ tg → wipe (σ.set i o) tg = wipe σ tg
  | [], _, h => (nomatch h)
  | j :: tg, σ, h => by
    show (wipe (σ.set i o) tg).set j none = (wipe σ tg).set j none
    by_cases hi : i ∈ tg
    · rw [wipe_set hi]
    · have : i = j := by
        rcases List.mem_cons.mp h with h | h
        · exact h
        · exact (hi h).elim
      subst this
      have e : ∀ (tg : List Nat) (σ : St), i ∉ tg → wipe (σ.set i o) tg = (wipe σ tg).set i o := fun tg => by
        induction tg with
        | nil => intro σ _; rfl
        | cons k tg ih =>
          intro σ hk
          show (wipe (σ.set i o) tg).set k none = ((wipe σ tg).set k none).set i o
          rw [ih σ (fun z => hk (List.mem_cons_of_mem _ z)), List.set_comm _ _ (fun z => hk (by rw [z]; exact List.mem_cons_self ..))]
      rw [e tg σ hi, List.set_set]
theorem wipe_wipe : ∀ {tg : List Nat} {σ : St}, wipe (wipe σ tg) tg = wipe σ tg := by
  have sub : ∀ (vs tg : List Nat) (σ : St), (∀ v ∈ vs, v ∈ tg) → wipe (wipe σ vs) tg = wipe σ tg := fun vs => by
    induction vs with
    | nil => intro tg σ _; rfl
    | cons v vs ih =>
      intro tg σ h
      show wipe ((wipe σ vs).set v none) tg = _
      rw [wipe_set (h v (List.mem_cons_self ..)), ih tg σ fun w hw => h w (List.mem_cons_of_mem _ hw)]
  intro tg σ
  exact sub _ _ _ fun v h => h
theorem length_wipe : ∀ {tg : List Nat} {σ : St}, (wipe σ tg).length = σ.length
  | [], _ => rfl
  | v :: vs, σ => by show ((wipe σ vs).set v none).length = _; rw [List.length_set, length_wipe]
theorem EnvOk.kills (E : EnvOk K σ H lab ρ) : ∀ tg : List Nat, EnvOk K (wipe σ tg) H lab (killV ρ tg)
  | [] => E
  | v :: vs => (E.kills vs).kill v none
theorem egs_name {i : Nat} : EgS K [i] (gName i) := by
  intro v d σ H lab ρ ρ' Q E r hb hq
  have hb : (if i < ρ.length then some (ρ.set i (.dat d)) else none) = some ρ' := hb
  split at hb
  · rename_i hi
    cases hb
    exact hq _ (E.set r hi) (wipe_set (List.mem_cons_self ..))
  · cases hb
/-- the names of a tuple -/
def EgsS (K : PySem.W.Frag) (is : List Nat) (g : TGs) : Prop := ∀ (vs : List V) (ds : List D) (σ : St) (H : Hp) (lab : Lab) (ρ ρ' : Env) (tg : List Nat) (Q : St → Hp → Prop), (∀ i ∈ is, i ∈ tg) → EnvOk K σ H lab ρ → RepAll K (FH H lab) ds vs → bindAll is ds ρ = some ρ' →
  (∀ σ', EnvOk K σ' H lab ρ' → wipe σ' tg = wipe σ tg → Q σ' H) → g vs σ H Q
theorem egs_nil : EgsS K [] gNil := by
  intro vs ds σ H lab ρ ρ' tg Q ht E r hb hq
  cases ds with
  | nil => rw [RepAll] at r; subst r; cases hb; exact ⟨rfl, hq σ E rfl⟩
  | cons _ _ => cases hb
theorem egs_cons {i : Nat} {is : List Nat} {g : TGs} (h : EgsS K is g) : EgsS K (i :: is) (gCons (gName i) g) := by
  intro vs ds σ H lab ρ ρ' tg Q ht E r hb hq
  cases ds with
  | nil => cases hb
  | cons d ds =>
    rw [RepAll] at r
    obtain ⟨x, xs, rfl, r1, r2⟩ := r
    have hb : (if i < ρ.length then bindAll is ds (ρ.set i (.dat d)) else none) = some ρ' := hb
    split at hb
    · rename_i hi
      refine ⟨x, xs, rfl, ?_⟩
      exact h xs ds _ H lab _ ρ' tg Q (fun j hj => ht j (List.mem_cons_of_mem _ hj)) (E.set r1 hi) r2 hb fun σ' E' w => hq σ' E' (w.trans (wipe_set (ht i (List.mem_cons_self ..))))
    · cases hb
end
section
variable {X : Cx} {T : Tb} {CT : Ct} {G : Gm} {N : List Str} {sc : Scope}
theorem pgs_of (C : Cok X T CT G N sc) : ∀ {is : List Nat} {es : List Expr}, chkTgs N sc is es = true → ∃ g, PGs X es g ∧ EgsS X.K is g ∧ (assignEach es X.env).length = is.length ∧ (assignEach es X.env).findIdx? (·.1) = none
  | [], [], _ => ⟨gNil, pgs_nil, egs_nil, rfl, rfl⟩
  | i :: is, .Name x p :: es, h => by
    rw [chkTgs, Bool.and_eq_true] at h
    obtain ⟨g, h1, h2, h3, h4⟩ := pgs_of C h.2
    refine ⟨_, pgs_cons (C.slot h.1) h1, egs_cons h2, ?_, ?_⟩
    · show (assignEach es X.env).length + 1 = _
      rw [h3]; rfl
    · show List.findIdx? (fun x => x.1) ((false, _) :: assignEach es X.env) = none
      rw [List.findIdx?_cons, h4]
      rfl
theorem pg_of (C : Cok X T CT G N sc) {tg : List Nat} {e : Expr} (h : chkTg N sc tg e = true) : ∃ g, PG X e g ∧ EgS X.K tg g := by
  unfold chkTg at h
  split at h
  · exact ⟨_, C.slot h, egs_name⟩
  · rename_i i j is es k0 pos
    obtain ⟨g, h1, h2, h3, h4⟩ := pgs_of C h
    refine ⟨_, pg_tup (n := (i :: j :: is).length) C.calm h1 h3 h4, ?_⟩
    intro v d σ H lab ρ ρ' Q E r hb hq
    cases d with
    | tup ds =>
      rw [Rep] at r
      obtain ⟨a, xs, rfl, s, r⟩ := r
      have hb : bindAll (i :: j :: is) ds ρ = some ρ' := hb
      refine ⟨a, xs, rfl, FH_le.seqT s, ?_, h2 xs ds σ H lab ρ ρ' (i :: j :: is) Q (fun _ h => h) E r hb hq⟩
      rw [← r.length]
      have : ∀ (is : List Nat) (ds : List D) (ρ ρ' : Env), bindAll is ds ρ = some ρ' → ds.length = is.length := fun is => by
        induction is with
        | nil => intro ds ρ ρ' e; cases ds with
          | nil => rfl
          | cons _ _ => cases e
        | cons i is ih =>
          intro ds ρ ρ' e
          cases ds with
          | nil => cases e
          | cons d ds =>
            have e : (if i < ρ.length then bindAll is ds (ρ.set i (.dat d)) else none) = some ρ' := e
            split at e
            · rw [List.length_cons, List.length_cons, ih _ _ _ e]
            · cases e
      exact this _ _ _ _ hb
    | _ => cases hb
  · cases h
/-! ### what is walked -/
/-- the things that J gives are ds -/
def ItOk (K : PySem.W.Frag) (J : L2.It) (F : Hp) (ds : List D) : Prop := ∀ (H' F' : Hp), RdLe F F' → RdLe F' H' → (∀ i d, ds[i]? = some d → J.go i H' ∧ ∀ x H'', J.yld i H' x H'' → H'' = H' ∧ Rep K F' d x) ∧ J.stop ds.length H'
theorem it_list {K : PySem.W.Frag} {F : Hp} {a : Addr} {ds : List D} {xs : List V} (h : F a = some (.lst xs)) (r : RepAll K F ds xs) : ItOk K (Itl K a) F ds := fun H' F' l1 l2 => by
  have s : SqL K H' a xs := l2.seqL (l1.seqL (.inl (.inl h)))
  refine ⟨fun i d hd => ?_, ⟨xs, s, by rw [r.length]; exact Nat.le_refl _⟩⟩
  obtain ⟨x, hx, rx⟩ := r.get hd
  refine ⟨⟨xs, x, s, hx⟩, fun y H'' hy => ⟨hy.1, ?_⟩⟩
  have := hy.2 xs s
  rw [hx] at this
  cases this
  exact Rep.mono l1 _ _ rx
theorem it_tup {K : PySem.W.Frag} {F : Hp} {a : Addr} {ds : List D} {xs : List V} (h : SqT K F a xs) (r : RepAll K F ds xs) : ItOk K (Itt K a) F ds := fun H' F' l1 l2 => by
  have s : SqT K H' a xs := l2.seqT (l1.seqT h)
  refine ⟨fun i d hd => ?_, ⟨xs, s, by rw [r.length]; exact Nat.le_refl _⟩⟩
  obtain ⟨x, hx, rx⟩ := r.get hd
  refine ⟨⟨xs, x, s, hx⟩, fun y H'' hy => ⟨hy.1, ?_⟩⟩
  have := hy.2 xs s
  rw [hx] at this
  cases this
  exact Rep.mono l1 _ _ rx
theorem it_rng {K : PySem.W.Frag} {F : Hp} {lo : Int} {n : Nat} : ItOk K (Itr lo n) F ((List.range n).map fun i => .int (lo + (i : Nat))) := fun H' F' l1 l2 => by
  refine ⟨fun i d hd => ?_, by show n ≤ _; rw [List.length_map, List.length_range]; exact Nat.le_refl _⟩
  rw [List.getElem?_map] at hd
  obtain ⟨j, hj, rfl⟩ := Option.map_eq_some_iff.mp hd
  have hi : i < n := by
    rcases Nat.lt_or_ge i n with q | q
    · exact q
    · rw [List.getElem?_eq_none (by rw [List.length_range]; exact q)] at hj; cases hj
  rw [List.getElem?_range hi] at hj
  cases hj
  refine ⟨hi, fun x H'' hy => ⟨hy.1, ?_⟩⟩
  rw [hy.2]
  exact rep_int
def iSeq (K : PySem.W.Frag) (tl : TE) : TI := fun σ H R => tl σ H fun x H1 => ∃ a, x = .ref a ∧ (((∃ xs, SqL K H1 a xs) ∧ R (Itl K a) H1) ∨ ((∃ xs, SqT K H1 a xs) ∧ R (Itt K a) H1))
theorem pi_seq {l tg : Expr} {tl : TE} (hl : PE X l tl) : PI X tg l (iSeq X.K tl) := by
  refine ⟨fun pins s σ H R I h => ?_⟩
  refine thn (hl.run pins s σ H _ I h) fun v s1 ⟨x, H1, I1, r1, q1⟩ => ?_
  obtain ⟨a, e, q1⟩ := q1
  subst e
  cases r1
  rcases q1 with ⟨⟨xs, hq⟩, q⟩ | ⟨⟨xs, hq⟩, q⟩
  · obtain ⟨its, rv, p, hz⟩ := I1.list hq
    refine wpAny_pyIter_list p.isList ?_
    refine ⟨s1.heap.objs.size, [s1.heap.objs.size], _, _, H1, rfl, I1.kept (t' := s1.toks) fun b o e => Heap.get?_push_of_some _ e, turn_list a _, ⟨_, Heap.get?_push_size _ rfl, rfl, rfl⟩, fun b hb => ?_, q⟩
    have e : b = s1.heap.objs.size := by simpa using hb
    subst e
    exact I1.fpOk (Nat.le_refl _) (I1.hok.fresh (Nat.le_refl _))
  · obtain ⟨its, rv, p, hz⟩ := I1.tuple hq
    refine wpAny_pyIter_tuple (show s1.heap.IsTuple a its.toArray from p) ?_
    refine ⟨s1.heap.objs.size, [s1.heap.objs.size], _, _, H1, rfl, I1.kept (t' := s1.toks) fun b o e => Heap.get?_push_of_some _ e, turn_tuple a _, ⟨_, Heap.get?_push_size _ rfl, rfl, rfl⟩, fun b hb => ?_, q⟩
    have e : b = s1.heap.objs.size := by simpa using hb
    subst e
    exact I1.fpOk (Nat.le_refl _) (I1.hok.fresh (Nat.le_refl _))
def EiS (X : Cx) (CT : Ct) (G : Gm) (W : WX) (it : KS.It) (wi : TI) : Prop := ∀ (x : Bool) (σ : St) (H : Hp) (lab : Lab) (ρ : Env) (k : List D → Env → KS.T) (Ψ : RF → Prop) (R : L2.It → Hp → Prop), ¬ Ψ .stuck → EnvOk X.K σ H lab ρ →
  (∀ J H' ds ρ', Stp it.tch lab H H' → EnvOk X.K σ H' lab ρ' → ItOk X.K J (FH H' lab) ds → Ψ ((k ds ρ').den G) → R J H') →
  (x = true → ∀ c pl cls dx H', Stp it.tch lab H H' → XOk X.K CT c pl cls dx H' lab → Ψ (.exc c pl) → W cls dx σ H') →
  Ψ ((evIK x it ρ k).den G) → wi σ H R
def SI (X : Cx) (CT : Ct) (G : Gm) (e : Expr) (it : KS.It) : Prop := ∀ W, Tk CT X W → ∃ wi, (∀ tg, PI X tg e wi) ∧ EiS X CT G W it wi
/-- .. where P is true -/
abbrev Pre := St → Hp → Lab → Env → Prop
def EiP (P : Pre) (X : Cx) (CT : Ct) (G : Gm) (W : WX) (it : KS.It) (wi : TI) : Prop := ∀ (x : Bool) (σ : St) (H : Hp) (lab : Lab) (ρ : Env) (k : List D → Env → KS.T) (Ψ : RF → Prop) (R : L2.It → Hp → Prop), ¬ Ψ .stuck → EnvOk X.K σ H lab ρ → P σ H lab ρ →
  (∀ J H' ds ρ', Stp it.tch lab H H' → EnvOk X.K σ H' lab ρ' → ItOk X.K J (FH H' lab) ds → Ψ ((k ds ρ').den G) → R J H') →
  (x = true → ∀ c pl cls dx H', Stp it.tch lab H H' → XOk X.K CT c pl cls dx H' lab → Ψ (.exc c pl) → W cls dx σ H') →
  Ψ ((evIK x it ρ k).den G) → wi σ H R
def SIP (P : Pre) (X : Cx) (CT : Ct) (G : Gm) (e : Expr) (it : KS.It) : Prop := ∀ W, Tk CT X W → ∃ wi, (∀ tg, PI X tg e wi) ∧ EiP P X CT G W it wi
def PT1 : Pre := fun _ _ _ _ => True
theorem SI.p {e : Expr} {it : KS.It} (h : SI X CT G e it) : SIP PT1 X CT G e it := fun W tk =>
  let ⟨wi, h1, h2⟩ := h W tk
  ⟨wi, h1, fun x σ H lab ρ k Ψ R hs En _ hq hx hp => h2 x σ H lab ρ k Ψ R hs En hq hx hp⟩
/-- the dict of the name i is locked -/
def LkP (K : PySem.W.Frag) (i : Nat) : Pre := fun σ H lab ρ => ∃ d od kvs vs, ρ[i]? = some (.dat (.dic kvs)) ∧ σ[i]? = some (some (.ref d)) ∧ lab d = none ∧ H d = some (.frz od (.dK vs)) ∧ RepKV K (FH H lab) kvs vs
theorem it_keys {K : PySem.W.Frag} {F : Hp} {a : Addr} {od : Obj} {kvs : List (Ky × D)} {vs : List (Key × V)} (h : F a = some (.frz od (.dK vs))) (r : RepKV K F kvs vs) : ItOk K (Itk a od vs) F (kvs.map fun kv => keyD kv.1) := fun H' F' l1 l2 => by
  have s : H' a = some (.frz od (.dK vs)) := l2.fz _ _ _ (l1.fz _ _ _ h)
  have rk := r.keys
  have hl : (kvs.map fun kv => keyD kv.1).length = vs.length := by rw [rk.length, List.length_map]
  refine ⟨fun i d hd => ?_, ⟨s, by rw [hl]; exact Nat.le_refl _⟩⟩
  have hi : i < vs.length := by
    rw [← hl]
    rcases Nat.lt_or_ge i (kvs.map fun kv => keyD kv.1).length with q | q
    · exact q
    · rw [List.getElem?_eq_none q] at hd; cases hd
  obtain ⟨x, hx, rx⟩ := rk.get hd
  refine ⟨⟨s, hi⟩, fun y H'' hy => ⟨hy.1, ?_⟩⟩
  obtain ⟨_, k, v, e1, e2⟩ := hy
  rw [List.getElem?_map, e1] at hx
  cases hx
  rw [e2]
  exact Rep.mono l1 _ _ rx
theorem sip_keys (C : Cok X T CT G N sc) {i : Nat} {x : Str} {pos : Pos} (h : nameB N sc i x = true) : SIP (LkP X.K i) X CT G (.Name x pos) (.keys (.var i)) := by
  intro W tk
  refine ⟨_, fun tg => pi_keys (C.name h), fun x σ H lab ρ k Ψ R hs En hP hq hx hp => ?_⟩
  obtain ⟨d, od, kvs, vs, e1, e2, e3, e4, e5⟩ := hP
  refine ⟨.ref d, e2, d, od, rfl, .inl ⟨vs, e4, ?_⟩⟩
  have hr : rd false ρ (i, none) = some (.dic kvs) := by
    show (match ρ[i]? with
      | some (.dat d) => some d
      | some (.ol xs) => if false then some (.lst xs) else none
      | some (.od kvs) => if false then some (.dic kvs) else none
      | _ => none) = _
    rw [e1]
  have hp : Ψ ((ofK (rd false ρ (i, none)) ρ fun d ρ1 => ofK (keysD d) ρ1 k).den G) := hp
  rw [hr] at hp
  exact hq _ H _ ρ (Stp.refl _ _ _) En (it_keys (by rw [FH_of e3]; exact e4) e5) hp
theorem si_seq {e : Expr} {m : E} (h : SE X CT G e m) : SI X CT G e (.seq m) := by
  intro W tk
  obtain ⟨t, p1, v1⟩ := h W tk
  refine ⟨_, fun tg => pi_seq p1, fun x σ H lab ρ k Ψ R hs En hq hx hp => ?_⟩
  refine v1 x false σ H lab ρ _ Ψ _ hs En (fun v H1 d ρ1 s1 E1 r1 r1' hp1 => ?_) hx hp
  obtain ⟨ds, hd, hp1⟩ := den_ofK hs hp1
  have r := r1' rfl
  cases d with
  | tup xs =>
    cases hd
    rw [Rep] at r
    obtain ⟨a, vs, rfl, q, r⟩ := r
    exact ⟨a, rfl, .inr ⟨⟨vs, FH_le.seqT q⟩, hq _ H1 _ ρ1 s1 E1 (it_tup q r) hp1⟩⟩
  | lst xs =>
    cases hd
    rw [Rep] at r
    obtain ⟨a, vs, rfl, q, r⟩ := r
    exact ⟨a, rfl, .inl ⟨⟨vs, FH_le.seqL (.inl (.inl q))⟩, hq _ H1 _ ρ1 s1 E1 (it_list q r) hp1⟩⟩
  | _ => cases hd
theorem si_rng1 (C : Cok X T CT G N sc) {e : Expr} {m : E} {x : Str} {p pos : Pos} (hx : x = "range") (g : glB sc x = true) (h1 : starB e = false) (h : SE X CT G e m) : SI X CT G (.Call (.Name x p) [e] [] pos) (.rng1 m) := by
  subst hx
  intro W tk
  obtain ⟨t, p1, v1⟩ := h W tk
  refine ⟨_, fun tg => pi_range1 (C.glo g) (C.blt (by decide)) (pa_cons p1 pa_nil (star_cons h1)) (star_cons h1), fun x σ H lab ρ k Ψ R hs En hq hx hp => ?_⟩
  refine v1 x false σ H lab ρ _ Ψ _ hs En (fun v H1 d ρ1 s1 E1 r1 r1' hp1 => ?_) hx hp
  obtain ⟨ds, hd, hp1⟩ := den_ofK hs hp1
  cases d with
  | int j =>
    have hd : rangeD 0 j = some ds := hd
    unfold rangeD at hd
    split at hd
    · rename_i hr
      cases hd
      have e : (j - 0).toNat = j.toNat := by omega
      rw [e] at hp1
      exact ⟨j, by rw [r1.top.int], by omega, by omega, hq _ H1 _ ρ1 s1 E1 it_rng hp1⟩
    · cases hd
  | _ => cases hd
theorem si_rng2 (C : Cok X T CT G N sc) {e e2 : Expr} {m m2 : E} {x : Str} {p pos : Pos} (hx : x = "range") (g : glB sc x = true) (h1 : starB e = false) (h2 : starB e2 = false) (h : SE X CT G e m) (h' : SE X CT G e2 m2) : SI X CT G (.Call (.Name x p) [e, e2] [] pos) (.rng2 m m2) := by
  subst hx
  intro W tk
  obtain ⟨t, p1, v1⟩ := h W tk
  obtain ⟨t2, p2, v2⟩ := h' W tk
  refine ⟨_, fun tg => pi_range2 (C.glo g) (C.blt (by decide)) (pa_cons p1 (pa_cons p2 pa_nil (star_cons h2)) (star_cons h1)) (by rw [star_cons h1, star_cons h2]; rfl) (by rw [star_cons h2]; rfl), fun x σ H lab ρ k Ψ R hs En hq hx hp => ?_⟩
  have s1 : ∀ {H1 H2}, Stp m.tch lab H1 H2 → Stp (KS.It.rng2 m m2).tch lab H1 H2 := fun s => s.imp fun i h => or_l h
  have s2 : ∀ {H1 H2}, Stp m2.tch lab H1 H2 → Stp (KS.It.rng2 m m2).tch lab H1 H2 := fun s => s.imp fun i h => or_r h
  refine v1 x false σ H lab ρ _ Ψ _ hs En (fun v H1 d ρ1 st1 E1 r1 r1' hp1 => ?_) (fun xt c pl cls dx H' s => hx xt c pl cls dx H' (s1 s)) hp
  refine v2 x false σ H1 lab ρ1 _ Ψ _ hs E1 (fun u H2 d2 ρ2 st2 E2 r2 r2' hp2 => ?_) (fun xt c pl cls dx H' s => hx xt c pl cls dx H' ((s1 st1).trans (s2 s))) hp1
  obtain ⟨ds, hd, hp2⟩ := den_ofK hs hp2
  cases d with
  | int i =>
    cases d2 with
    | int j =>
      have hd : rangeD i j = some ds := hd
      unfold rangeD at hd
      split at hd
      · rename_i hr
        cases hd
        exact ⟨i, j, by rw [r1.top.int, r2.top.int], ⟨by omega, by omega, by omega, by omega⟩, hq _ H2 _ ρ2 ((s1 st1).trans (s2 st2)) E2 it_rng hp2⟩
      · cases hd
    | _ => cases hd
  | _ => cases hd
end
end KS

set_option Elab.async false
set_option linter.all false
set_option maxRecDepth 100000
namespace KS
open PySem L2
theorem and2 {a b : Bool} (h : (a && b) = true) : a = true ∧ b = true := by rwa [Bool.and_eq_true] at h
mutual
theorem still_tch : ∀ (e : E), e.still = true → ∀ j, e.tch j = false
  | .tup es, h, j => stills_tch es h j
  | .lst es, h, j => stills_tch es h j
  | .dic _ es, h, j => stills_tch es h j
  | .bin _ a b, h, j => by
    have h := and2 h
    show (a.tch j || b.tch j) = false
    rw [still_tch a h.1, still_tch b h.2]; rfl
  | .not_ a, h, j => still_tch a h j
  | .neg a, h, j => still_tch a h j
  | .and_ a b, h, j => by
    have h := and2 h
    show (a.tch j || b.tch j) = false
    rw [still_tch a h.1, still_tch b h.2]; rfl
  | .or_ a b, h, j => by
    have h := and2 h
    show (a.tch j || b.tch j) = false
    rw [still_tch a h.1, still_tch b h.2]; rfl
  | .ife c a b, h, j => by
    have h := and2 h
    have g := and2 h.1
    show (c.tch j || a.tch j || b.tch j) = false
    rw [still_tch c g.1, still_tch a g.2, still_tch b h.2]; rfl
  | .ix a b, h, j => by
    have h := and2 h
    show (a.tch j || b.tch j) = false
    rw [still_tch a h.1, still_tch b h.2]; rfl
  | .dx a b, h, j => by
    have h := and2 h
    show (a.tch j || b.tch j) = false
    rw [still_tch a h.1, still_tch b h.2]; rfl
  | .slc c a b, h, j => by
    have h := and2 h
    have g := and2 h.1
    show (c.tch j || a.tch j || b.tch j) = false
    rw [still_tch c g.1, still_tch a g.2, still_tch b h.2]; rfl
  | .get c a b, h, j => by
    have h := and2 h
    have g := and2 h.1
    show (c.tch j || a.tch j || b.tch j) = false
    rw [still_tch c g.1, still_tch a g.2, still_tch b h.2]; rfl
  | .setd _ _ _, h, j => by cases h
  | .pop _, h, j => by cases h
  | .bif _ es, h, j => stills_tch es h j
  | .isi a _, h, j => still_tch a h j
  | .comp a _ it b, h, j => by
    have h := and2 h
    have g := and2 h.1
    show (a.tch j || it.tch j || b.tch j) = false
    rw [still_tch a g.1, stilli_tch it g.2, still_tch b h.2]; rfl
  | .call _ es, h, j => stills_tch es h j
  | .mv _, h, j => by cases h
  | .dk1 a b, h, j => by
    have h := and2 h
    show (a.tch j || b.tch j) = false
    rw [still_tch a h.1, still_tch b h.2]; rfl
  | .meth _ _ _ _, h, j => by cases h
  | .exf a, h, j => still_tch a h j
  | .rix a b, h, j => by
    have h := and2 h
    show (a.tch j || b.tch j) = false
    rw [still_tch a h.1, still_tch b h.2]; rfl
  | .var _, _, _ => rfl
  | .int _, _, _ => rfl
  | .str _, _, _ => rfl
  | .bl _, _, _ => rfl
  | .non, _, _ => rfl
  | .glob _, _, _ => rfl
  | .fld _ _, _, _ => rfl
  | .mf, _, _ => rfl
  | .asDat _ e, h, j => still_tch e h j
theorem stills_tch : ∀ (e : Es), e.still = true → ∀ j, e.tch j = false
  | .nil, _, _ => rfl
  | .cons e r, h, j => by
    have h := and2 h
    show (e.tch j || r.tch j) = false
    rw [still_tch e h.1, stills_tch r h.2]; rfl
theorem stilli_tch : ∀ (e : KS.It), e.still = true → ∀ j, e.tch j = false
  | .seq e, h, j => still_tch e h j
  | .rng1 e, h, j => still_tch e h j
  | .rng2 a b, h, j => by
    have h := and2 h
    show (a.tch j || b.tch j) = false
    rw [still_tch a h.1, still_tch b h.2]; rfl
  | .keys e, h, j => still_tch e h j
end
end KS

set_option Elab.async false
set_option linter.all false
set_option maxRecDepth 100000
namespace KS
open PySem L2
/-! ### list comprehensions -/
theorem relS_free {sc : Scope} : ∀ {names : List (Str × NameKind)} {x : Str}, names.lookup x = some .free →
    (names.map fun (n, k) => if (k == NameKind.free && sc.kind == .function && sc.names.lookup n == some .cell) then (n, NameKind.cell) else (n, k)).lookup x = some .free ∨ (names.map fun (n, k) => if (k == NameKind.free && sc.kind == .function && sc.names.lookup n == some .cell) then (n, NameKind.cell) else (n, k)).lookup x = some .cell
  | [], _, h => by cases h
  | (n, k) :: r, x, h => by
    rw [List.lookup_cons] at h
    rw [List.map_cons]
    cases e : x == n with
    | true =>
      rw [e] at h
      cases h
      dsimp only
      split
      · right; rw [List.lookup_cons, e]
      · left; rw [List.lookup_cons, e]
    | false =>
      rw [e] at h
      have ih := relS_free (sc := sc) h
      dsimp only
      split
      · rw [List.lookup_cons, e]; exact ih
      · rw [List.lookup_cons, e]; exact ih
theorem ScR.rel {scope sc : Scope} : ScR scope (relS scope sc) := fun x k h => by
  refine ⟨fun hk => lookup_relS_keep hk h, fun hk => ?_⟩
  subst hk
  exact relS_free h
section
variable {X : Cx} {T : Tb} {CT : Ct} {G : Gm} {N : List Str} {sc : Scope}
theorem Cok.blk (C : Cok X T CT G N sc) (s : Shared) (H : Hp) {scope : Scope} {cenv : PySem.Env} (kf : scope.kind = .function) (h : cenv.scope = relS scope X.env.scope) (fp : List Addr) : Cok (X.blk s H scope cenv fp) T CT G N scope where
  nn := C.nn
  nd := C.nd
  calm := C.calm
  room := C.room
  kf := by show cenv.scope.kind = _; rw [h]; exact kf
  scr := by show ScR scope cenv.scope; rw [h]; exact ScR.rel
  st := fun x hx => by
    unfold locB at hx
    split at hx
    · rename_i e
      right
      show cenv.scope.names.lookup x = some .local
      rw [h]
      exact (ScR.rel x _ e).1 (by decide)
    · rename_i e
      left
      show (scope.names.lookup x == some .cell) = true
      rw [e]
      rfl
    · cases hx
  fn := C.fn
  gl := C.gl
  bl := C.bl
  xs := C.xs
  tr := C.tr
theorem blk_takes {s : Shared} {H : Hp} {scope : Scope} {cenv : PySem.Env} {fp : List Addr} : Tk CT (X.blk s H scope cenv fp) fun _ _ _ _ => False := by
  cases CT <;> (intro u s' h; obtain ⟨a, B, sI, pins, σ, H, cls, d, _, _, _, _, _, _, _, _, w⟩ := h; exact w.elim)
theorem pe_imp {e : Expr} {t t' : TE} (h : PE X e t) (i : ∀ σ H Q, t' σ H Q → t σ H Q) : PE X e t' := ⟨fun pins s σ H Q I q => h.run pins s σ H Q I (i σ H Q q)⟩
theorem pt_imp {e : Expr} {t t' : TT} (h : PT X e t) (i : ∀ σ H Q, t' σ H Q → t σ H Q) : PT X e t' := ⟨fun pins s σ H Q I q => h.run pins s σ H Q I (i σ H Q q)⟩
theorem EnvOk.far {K : PySem.W.Frag} {σ : St} {H : Hp} {lab : Lab} {ρ : Env} {p : Addr} {o : HO} (E : EnvOk K σ H lab ρ) (l : lab p = some .far) (ho : notTup o) : EnvOk K σ (upd H p o) lab ρ := by
  refine ⟨fun a l' e => ?_, E.tf.upd ho, E.len, fun i sv e n => ?_⟩
  · by_cases z : a = p
    · rw [z, upd_same]; exact fun z => nomatch z
    · rw [upd_ne z]; exact E.lok a l' e
  · obtain ⟨v, h1, h2⟩ := E.at_ i sv e n
    refine ⟨v, h1, h2.move (fun a j e => ⟨e, upd_ne fun z => by rw [z, l] at e; cases e⟩) ?_⟩
    rw [FH_upd_own l]
    exact RdLe.refl _
theorem Stp.thru {t t' : Nat → Bool} {lab : Lab} {H1 H H3 : Hp} {p : Addr} (s : Stp t lab H1 H) (s' : Stp t' (hide lab p) H H3) (ht : ∀ i, t' i = true → t i = true) (h : H1 p = none) (ok : LabOk lab H1) : Stp t lab H1 H3 := by
  have lp := lab_new ok h
  have np : ∀ {a l}, lab a = some l → a ≠ p := fun {a l} e z => by rw [z, lp] at e; cases e
  have nh : ∀ {a}, H1 a ≠ none → a ≠ p := fun {a} e z => e (by rw [z]; exact h)
  refine ⟨fun a e n => ?_, fun a i j e n => ?_, fun a e => ?_, fun a n => s'.mono a (s.mono a n)⟩
  · rw [s'.fro a (by rw [hide_ne (nh n)]; exact e) (s.mono a n), s.fro a e n]
  · rw [s'.keep a i j (by rw [hide_ne (np e)]; exact e) (by
      cases q : t' i with
      | false => rfl
      | true => rw [ht i q] at n; cases n), s.keep a i j e n]
  · rw [s'.far a (by rw [hide_ne (np e)]; exact e), s.far a e]
theorem Stp.past {t : Nat → Bool} {lab : Lab} {H1 H : Hp} {p : Addr} {o : HO} (s : Stp t lab H1 H) (h : H1 p = none) (ok : LabOk lab H1) : Stp t lab H1 (upd H p o) := by
  have lp := lab_new ok h
  have np : ∀ {a l}, lab a = some l → a ≠ p := fun {a l} e z => by rw [z, lp] at e; cases e
  have nh : ∀ {a}, H1 a ≠ none → a ≠ p := fun {a} e z => e (by rw [z]; exact h)
  refine ⟨fun a e n => ?_, fun a i j e n => ?_, fun a e => ?_, fun a n => ?_⟩
  · rw [upd_ne (nh n), s.fro a e n]
  · rw [upd_ne (np e), s.keep a i j e n]
  · rw [upd_ne (np e), s.far a e]
  · rw [upd_ne (nh n)]; exact s.mono a n
theorem upd_self {H : Hp} {p : Addr} {o : HO} (h : H p = some o) : upd H p o = H := by
  funext a
  by_cases z : a = p
  · rw [z, upd_same, h]
  · rw [upd_ne z]
theorem getD_dead {ρ : Env} {i : Nat} : ρ.getD i .dead = (ρ[i]?).getD .dead := List.getD_eq_getElem?_getD ..
theorem backV_at {old : Env} : ∀ {tg : List Nat} {ρ : Env} {j : Nat}, (j ∈ tg → j < ρ.length → (backV old ρ tg)[j]? = some (old.getD j .dead)) ∧ (j ∉ tg → (backV old ρ tg)[j]? = ρ[j]?) ∧ (backV old ρ tg).length = ρ.length
  | [], ρ, j => ⟨fun h => (nomatch h), fun _ => rfl, rfl⟩
  | v :: vs, ρ, j => by
    obtain ⟨h1, h2, h3⟩ := backV_at (old := old) (tg := vs) (ρ := ρ) (j := j)
    refine ⟨fun h hl => ?_, fun h => ?_, ?_⟩
    · show ((backV old ρ vs).set v (old.getD v .dead))[j]? = _
      by_cases e : j = v
      · subst e
        rw [List.getElem?_set_self (by rw [h3]; exact hl)]
      · rw [List.getElem?_set_ne (Ne.symm e)]
        rcases List.mem_cons.mp h with h | h
        · exact (e h).elim
        · exact h1 h hl
    · show ((backV old ρ vs).set v (old.getD v .dead))[j]? = _
      rw [List.getElem?_set_ne (fun z => h (by rw [z]; exact List.mem_cons_self ..))]
      exact h2 fun z => h (List.mem_cons_of_mem _ z)
    · show ((backV old ρ vs).set v (old.getD v .dead)).length = _
      rw [List.length_set, h3]
theorem killV_at : ∀ {tg : List Nat} {ρ : Env} {j : Nat}, (j ∈ tg → (killV ρ tg)[j]? = none ∨ (killV ρ tg)[j]? = some .dead) ∧ (j ∉ tg → (killV ρ tg)[j]? = ρ[j]?) ∧ (killV ρ tg).length = ρ.length
  | [], ρ, j => ⟨fun h => (nomatch h), fun _ => rfl, rfl⟩
  | v :: vs, ρ, j => by
    obtain ⟨h1, h2, h3⟩ := killV_at (tg := vs) (ρ := ρ) (j := j)
    refine ⟨fun h => ?_, fun h => ?_, ?_⟩
    · show ((killV ρ vs).set v .dead)[j]? = _ ∨ ((killV ρ vs).set v .dead)[j]? = _
      by_cases e : j = v
      · subst e
        by_cases hl : j < (killV ρ vs).length
        · right; rw [List.getElem?_set_self hl]
        · left; rw [List.getElem?_eq_none (by rw [List.length_set]; omega)]
      · rw [List.getElem?_set_ne (Ne.symm e)]
        rcases List.mem_cons.mp h with h | h
        · exact (e h).elim
        · exact h1 h
    · show ((killV ρ vs).set v .dead)[j]? = _
      rw [List.getElem?_set_ne (fun z => h (by rw [z]; exact List.mem_cons_self ..))]
      exact h2 fun z => h (List.mem_cons_of_mem _ z)
    · show ((killV ρ vs).set v .dead).length = _
      rw [List.length_set, h3]
theorem wipe_at : ∀ {tg : List Nat} {σ : St} {j : Nat}, j ∉ tg → (wipe σ tg)[j]? = σ[j]?
  | [], _, _, _ => rfl
  | v :: vs, σ, j, h => by
    show ((wipe σ vs).set v none)[j]? = _
    rw [List.getElem?_set_ne (fun z => h (by rw [z]; exact List.mem_cons_self ..))]
    exact wipe_at fun z => h (List.mem_cons_of_mem _ z)
/-- behind a comprehension the names stand as they stood -/
theorem EnvOk.back {K : PySem.W.Frag} {σ : St} {H1 H : Hp} {lab lab' : Lab} {ρ1 ρ : Env} {tg : List Nat} (E1 : EnvOk K σ H1 lab ρ1) (ho : (tg.any fun i => isOwn ρ1 (i, none)) = false) (rd : RdLe (FH H1 lab) (FH H lab')) (E : EnvOk K (wipe σ tg) H lab' (killV ρ tg)) : EnvOk K σ H lab' (backV ρ1 ρ tg) := by
  refine ⟨E.lok, E.tf, ?_, fun j sv e n => ?_⟩
  · rw [(backV_at (j := 0)).2.2]
    have := E.len
    rw [(killV_at (j := 0)).2.2, length_wipe] at this
    exact this
  · by_cases hj : j ∈ tg
    · have hl : j < ρ.length := by
        rw [← (backV_at (old := ρ1) (tg := tg) (j := j)).2.2]
        exact lt_of_get e
      rw [(backV_at).1 hj hl] at e
      cases e
      rw [getD_dead] at n ⊢
      cases q : ρ1[j]? with
      | none => rw [q] at n; exact (n rfl).elim
      | some sv =>
        rw [q] at n
        obtain ⟨v, h1, h2⟩ := E1.at_ j sv q n
        refine ⟨v, h1, ?_⟩
        have : isOwn ρ1 (j, none) = false := by
          cases z : isOwn ρ1 (j, none) with
          | false => rfl
          | true => rw [List.any_eq_true.mpr ⟨j, hj, z⟩] at ho; cases ho
        have this : sv.own = false := by
          unfold isOwn getP at this
          simp only [q] at this
          exact this
        cases sv with
        | dat d => exact Rep.mono rd _ _ h2
        | dead => trivial
        | ol _ => cases this
        | od _ => cases this
        | ob _ _ => cases this
    · rw [(backV_at).2.1 hj] at e
      have e' : (killV ρ tg)[j]? = some sv := by rw [(killV_at).2.1 hj]; exact e
      obtain ⟨v, h1, h2⟩ := E.at_ j sv e' n
      rw [wipe_at hj] at h1
      exact ⟨v, h1, h2⟩
theorem blkOk_rel {scope sc' : Scope} {own : List (Str × Nat)} (h : BlkOk N sc scope own) (r : ScR sc sc') : BlkOk N sc' scope own :=
  ⟨h.kind, h.uniq, h.ix, fun y hy e => by
    rcases h.free y hy e with k | k
    · exact .inl ((r _ _ k).1 (by decide))
    · rcases (r _ _ k).2 rfl with q | q
      · exact .inr q
      · exact .inl q, h.own⟩
/-- a form that makes a new list or dict -/
def EvF (X : Cx) (CT : Ct) (G : Gm) (W : WX) (m : E) (t : TE) : Prop := ∀ (x b : Bool) (σ : St) (H : Hp) (lab : Lab) (ρ : Env) (k : D → Env → KS.T) (Ψ : RF → Prop) (Q : VK), ¬ Ψ .stuck → EnvOk X.K σ H lab ρ →
  (∀ p H' d ρ', Stp m.tch lab H H' → H p = none → EnvOk X.K σ H' (hide lab p) ρ' → OC X.K H' (FH H' (hide lab p)) p (svOf d) → Ψ ((k d ρ').den G) → Q (.ref p) H') →
  (x = true → ∀ c pl cls dx H', Stp m.tch lab H H' → XOk X.K CT c pl cls dx H' lab → Ψ (.exc c pl) → W cls dx σ H') →
  Ψ ((evK x b m ρ k).den G) → t σ H Q
/-- a value that is stored to a name -/
def PAs (X : Cx) (N : List Str) (sc : Scope) (e : Expr) (t : TE) : Prop := ∀ (i : Nat) (x : Str) (px spos : Pos), slotB N sc i x = true → compOk sc x px e = true → PS X (.Assign [.Name x px] e spos) (tAsg t (gName i))
def EvFP (P : Pre) (X : Cx) (CT : Ct) (G : Gm) (W : WX) (m : E) (t : TE) : Prop := ∀ (x b : Bool) (σ : St) (H : Hp) (lab : Lab) (ρ : Env) (k : D → Env → KS.T) (Ψ : RF → Prop) (Q : VK), ¬ Ψ .stuck → EnvOk X.K σ H lab ρ → P σ H lab ρ →
  (∀ p H' d ρ', Stp m.tch lab H H' → H p = none → EnvOk X.K σ H' (hide lab p) ρ' → OC X.K H' (FH H' (hide lab p)) p (svOf d) → Ψ ((k d ρ').den G) → Q (.ref p) H') →
  (x = true → ∀ c pl cls dx H', Stp m.tch lab H H' → XOk X.K CT c pl cls dx H' lab → Ψ (.exc c pl) → W cls dx σ H') →
  Ψ ((evK x b m ρ k).den G) → t σ H Q
def SFP (P : Pre) (X : Cx) (N : List Str) (sc : Scope) (CT : Ct) (G : Gm) (e : Expr) (m : E) : Prop := ∀ W, Tk CT X W → ∃ t, PE X e t ∧ PAs X N sc e t ∧ EvFP P X CT G W m t
def SF (X : Cx) (N : List Str) (sc : Scope) (CT : Ct) (G : Gm) (e : Expr) (m : E) : Prop := ∀ W, Tk CT X W → ∃ t, PE X e t ∧ PAs X N sc e t ∧ EvF X CT G W m t
def SS (X : Cx) (N : List Str) (sc : Scope) (CT : Ct) (G : Gm) (e : Expr) (m : E) : Prop := ∀ W, Tk CT X W → ∃ t, PE X e t ∧ PAs X N sc e t ∧ EvS X CT G W m t
theorem rd_hide {H H' : Hp} {lab : Lab} {p : Addr} (h : ∀ a, a ≠ p → H' a = H a) (hp : H p = none) : RdLe (FH H lab) (FH H' (hide lab p)) := rd_of fun a e n => by
  have z : a ≠ p := fun z => n (by rw [z]; exact hp)
  exact ⟨by rw [hide_ne z]; exact e, h a z⟩
theorem rd_unhide {H : Hp} {lab : Lab} {p : Addr} : RdLe (FH H (hide lab p)) (FH H lab) := rd_of fun a e n => by
  have z : a ≠ p := fun z => by rw [z, hide_same] at e; cases e
  rw [hide_ne z] at e
  exact ⟨e, rfl⟩
theorem evs_of {W : WX} {m : E} {t : TE} (h : EvF X CT G W m t) : EvS X CT G W m t := by
  intro x b σ H lab ρ k Ψ Q hs En hq hx hp
  refine h x b σ H lab ρ k Ψ Q hs En (fun p H' d ρ' s h0 E oc hp' => ?_) hx hp
  have lp := lab_new En.lok h0
  obtain ⟨o, e, _⟩ := oc.notTup
  have E' : EnvOk X.K σ H' lab ρ' := by
    have := E.unhide (o := o) lp
    rwa [upd_self e] at this
  have r : Rep X.K (FH H' lab) d (.ref p) := by
    cases d with
    | lst xs =>
      obtain ⟨vs, e1, e2⟩ := oc
      rw [Rep]
      exact ⟨p, vs, rfl, by rw [FH_of lp]; exact e1, RepAll.mono rd_unhide _ _ e2⟩
    | dic xs =>
      obtain ⟨vs, e1, e2⟩ := oc
      rw [Rep]
      exact ⟨p, vs, rfl, .inl (by rw [FH_of lp]; exact e1), RepKV.mono rd_unhide _ _ e2⟩
    | _ => exact oc.elim
  exact hq _ H' d ρ' s E' (.inl r) (fun _ => r) hp'
theorem SF.ss {e : Expr} {m : E} (h : SF X N sc CT G e m) : SS X N sc CT G e m := fun W tk => let ⟨t, h1, h2, h3⟩ := h W tk; ⟨t, h1, h2, evs_of h3⟩
theorem SS.se {e : Expr} {m : E} (h : SS X N sc CT G e m) : SE X CT G e m := fun W tk => let ⟨t, h1, _, h3⟩ := h W tk; ⟨t, h1, h3⟩
theorem sw_not {e : Expr} {t : Option Expr} {l : Nat} {env : PySem.Env} (h : compB e = false) : swapsWith e t l env = pure false := by
  cases e <;> first | rfl | cases h
theorem sw_cell {elt : Expr} {gs : List Comprehension} {scope : Scope} {pos py : Pos} {y : Str} {l : Nat} {env : PySem.Env} (hy : env.scope.names.lookup y = some .cell) : swapsWith (.ListComp elt gs scope pos) (some (.Name y py)) l env = pure false := by
  have ky : env.kindOf y = some .cell := hy
  unfold swapsWith
  simp only [ky]
  have : (some NameKind.cell == some NameKind.local) = false := by decide
  simp [this]
theorem pas_of (C : Cok X T CT G N sc) {e : Expr} {t : TE} (h : PE X e t) (hc : compB e = false) : PAs X N sc e t := by
  intro i x px spos hs _
  unfold slotB at hs
  obtain ⟨h1, h3⟩ := Bool.and_eq_true _ _ ▸ hs
  obtain ⟨h1, h2⟩ := Bool.and_eq_true _ _ ▸ h1
  have h1 := of_decide_eq_true h1
  exact ps_set (by rw [C.nn]; exact C.nd) (by rw [C.nn]; exact h1) (C.loc h2) h (sw_not hc) (C.st x h2)
theorem sf_compP {P : Pre} (C : Cok X T CT G N sc) {e : E} {tg : List Nat} {it : KS.It} {c : E} {elt tgt iter : Expr} {ifs : List Expr} {scope : Scope} {pos : Pos} (hi : SIP P X CT G iter it) (hset : setB iter = false) (ht : chkTg N scope tg tgt = true) (hb : blkC N sc scope (ownOf N tg) = true)
    (he : ∀ X', Cok X' T CT G N scope → SE X' CT G elt e) (hc : (ifs = [] ∧ c = .bl true) ∨ ∃ f, ifs = [f] ∧ ∀ X', Cok X' T CT G N scope → ST X' CT G f c) :
    SFP P X N sc CT G (.ListComp elt [⟨tgt, iter, ifs, 0⟩] scope pos) (.comp e tg it c) := by
  intro W tk
  obtain ⟨wi, p1, v1⟩ := hi W tk
  have Cb : ∀ (s : Shared) (H : Hp) (A : Addr) (cl : List (Str × Addr)) (fp : List Addr), Cok (X.blk s H scope (compEnvC scope cl A X.env) fp) T CT G N scope := fun s H A cl fp => C.blk s H (blkOk_by hb).kind rfl fp
  -- one reading for every block
  have ⟨te, p2, v2⟩ : ∃ te : TE, (∀ (s : Shared) (H : Hp) (A : Addr) (cl : List (Str × Addr)) (fp : List Addr), PE (X.blk s H scope (compEnvC scope cl A X.env) fp) elt te) ∧ EvS X CT G (fun _ _ _ _ => False) e te := by
    have h := fun (s : Shared) (H : Hp) (A : Addr) (cl : List (Str × Addr)) (fp : List Addr) => he _ (Cb s H A cl fp) _ blk_takes
    refine ⟨fun σ H Q => ∀ s H0 A cl fp, (h s H0 A cl fp).choose σ H Q, fun s H A cl fp => pe_imp (h s H A cl fp).choose_spec.1 fun σ H' Q q => q s H A cl fp, ?_⟩
    intro x b σ H lab ρ k Ψ Q hs En hq hx hp s H0 A cl fp
    exact (h s H0 A cl fp).choose_spec.2 x b σ H lab ρ k Ψ Q hs En hq hx hp
  have ⟨tt, p3, v3⟩ : ∃ tt : TT, (∀ (s : Shared) (H : Hp) (A : Addr) (cl : List (Str × Addr)) (fp : List Addr), PTs (X.blk s H scope (compEnvC scope cl A X.env) fp) ifs tt) ∧ TsS X CT G (fun _ _ _ _ => False) c tt := by
    rcases hc with ⟨rfl, rfl⟩ | ⟨f, rfl, hf⟩
    · refine ⟨tYes, fun _ _ _ _ _ => pts_nil, ?_⟩
      intro x b σ H lab ρ k Ψ Q hs En hk hq hx hp
      exact hq true H (.bl true) ρ (Stp.refl _ _ _) En rfl hp
    · have h := fun (s : Shared) (H : Hp) (A : Addr) (cl : List (Str × Addr)) (fp : List Addr) => hf _ (Cb s H A cl fp) _ blk_takes
      refine ⟨fun σ H Q => ∀ s H0 A cl fp, (h s H0 A cl fp).choose σ H Q, fun s H A cl fp => pts_one (pt_imp (h s H A cl fp).choose_spec.1 fun σ H' Q q => q s H A cl fp), ?_⟩
      intro x b σ H lab ρ k Ψ Q hs En hk hq hx hp s H0 A cl fp
      exact (h s H0 A cl fp).choose_spec.2.2 x b σ H lab ρ k Ψ Q hs En hk hq hx hp
  have ⟨g, p4, v4⟩ : ∃ g : TG, (∀ (s : Shared) (H : Hp) (A : Addr) (cl : List (Str × Addr)) (fp : List Addr), PG (X.blk s H scope (compEnvC scope cl A X.env) fp) tgt g) ∧ EgS X.K tg g := by
    have h := fun (s : Shared) (H : Hp) (A : Addr) (cl : List (Str × Addr)) (fp : List Addr) => pg_of (Cb s H A cl fp) ht
    refine ⟨fun v σ H Q => ∀ s H0 A cl fp, (h s H0 A cl fp).choose v σ H Q, fun s H A cl fp => ⟨fun pins s1 σ H1 v u Q I r q => (h s H A cl fp).choose_spec.1.run pins s1 σ H1 v u Q I r (q s H A cl fp)⟩, ?_⟩
    intro v d σ H lab ρ ρ' Q E r hb hq s H0 A cl fp
    exact (h s H0 A cl fp).choose_spec.2 v d σ H lab ρ ρ' Q E r hb hq
  have ow : (ownOf N tg).map (·.2) = tg := by
    unfold ownOf
    rw [List.map_map]
    exact List.map_id _
  have hs : ∀ x, foldedSetIterable iter X.env x = pure x := fun x => by
    cases iter <;> first | rfl | cases hset
  have bo : BlkOk X.N X.env.scope scope (ownOf N tg) := by rw [C.nn]; exact blkOk_rel (blkOk_by hb) C.scr
  have pl := pe_lc (pos := pos) C.calm (by rw [C.nn]; exact C.nd) (p1 tgt) bo p4 p3 p2 hs
  rw [ow] at pl
  refine ⟨_, pl, fun i x px spos hsl hco => ?_, fun xx b σ H lab ρ k Ψ Q hns En hP hq hx hp => ?_⟩
  · have hsl' := hsl
    unfold slotB at hsl
    obtain ⟨g1, g3⟩ := Bool.and_eq_true _ _ ▸ hsl
    obtain ⟨g1, g2⟩ := Bool.and_eq_true _ _ ▸ g1
    have g1 := of_decide_eq_true g1
    unfold compOk at hco
    simp only at hco
    split at hco
    · rename_i hl
      obtain ⟨k1, k2⟩ := Bool.and_eq_true _ _ ▸ hco
      have hl' : X.env.scope.names.lookup x = some .local := (C.scr x _ hl).1 (by decide)
      have := ps_setLc (spos := spos) C.calm (by rw [C.nn]; exact C.nd) (by rw [C.nn]; exact g1) hl' (sw_true (pos := pos) C.kf hl' k1 (by simpa using k2)) (p1 tgt) bo p4 p3 p2 hs
      rw [ow] at this
      exact this
    · rename_i hl
      exact ps_set (by rw [C.nn]; exact C.nd) (by rw [C.nn]; exact g1) (C.loc g2) pl (sw_cell ((C.scr x _ hl).1 (by decide))) (C.st x g2)
    · cases hco
  have st : ∀ {H1 H2}, Stp it.tch lab H1 H2 → Stp (KS.E.comp e tg it c).tch lab H1 H2 := fun s => s.imp fun i h => or_l (or_r h)
  refine v1 xx σ H lab ρ _ Ψ _ hns En hP (fun J H1 ds ρ1 s1 E1 ok hp1 => ?_) (fun xt c pl cls dx H' s => hx xt c pl cls dx H' (st s)) hp
  obtain ⟨hown, hp1⟩ := den_unK hns hp1
  obtain ⟨hlim, hp1⟩ := den_unK hns hp1
  have hlim : ds.length ≤ lim := by
    rcases Nat.lt_or_ge lim ds.length with q | q
    · rw [decide_eq_true q] at hlim; cases hlim
    · exact q
  intro A hA
  have lA := lab_new E1.lok hA
  generalize hf : (fun d ρ2 (k2 : Option D → Env → KS.T) => KS.T.opt (bindT tg d (killV ρ2 tg)) fun ρ3 => evK false true c ρ3 fun dc ρ4 => KS.T.tri (truth dc) (fun _ => evK false false e ρ4 fun y ρ5 => k2 (some y) ρ5) (fun _ => k2 none ρ4)) = f at hp1
  let Inv := fun (i m : Nat) (H' : Hp) => m = ds.length - i ∧ i ≤ ds.length ∧ ∃ (acc : List V) (xs : List D) (ρi : Env), H' A = some (.lst acc) ∧ acc.length ≤ i ∧ RepAll X.K (FH H' (hide lab A)) xs acc ∧ EnvOk X.K (wipe σ tg) H' (hide lab A) (killV ρi tg) ∧
    Stp (KS.E.comp e tg it c).tch lab H1 H' ∧ RdLe (FH H1 lab) (FH H' (hide lab A)) ∧ Ψ ((compK f (ds.drop i) ρi fun ys ρ2 => k (.lst (xs ++ ys)) (backV ρ1 ρ2 tg)).den G)
  refine ⟨Inv, ⟨ds.length, rfl, Nat.zero_le _, [], [], ρ1, upd_same, Nat.le_refl _, RepAll.nil, (E1.hide hA notTup_lst).kills tg, Stp.new E1.lok hA, rd_of fun a e n => ?_, hp1⟩, ?_⟩
  · have z : a ≠ A := fun z => n (by rw [z]; exact hA)
    exact ⟨by rw [hide_ne z]; exact e, upd_ne z⟩
  rintro i m H' ⟨rfl, hi, acc, xs, ρi, i1, i2, i3, i4, i5, i6, i7⟩
  have lh : hide lab A A = some .far := hide_same
  by_cases hlt : i < ds.length
  · right
    have hd : ds[i]? = some ds[i] := by rw [List.getElem?_eq_getElem hlt]
    obtain ⟨g1, g2⟩ := (ok H' _ i6 FH_le).1 i _ hd
    refine ⟨g1, fun H'' => Inv (i + 1) (ds.length - (i + 1)) H'', fun H'' z => ⟨_, by omega, z⟩, fun x H'' hy => ?_⟩
    obtain ⟨rfl, rx⟩ := g2 x H'' hy
    have e7 : ds.drop i = ds[i] :: ds.drop (i + 1) := List.drop_eq_getElem_cons hlt
    rw [e7] at i7
    have i7 : Ψ ((f ds[i] ρi fun o ρ1' => compK f (ds.drop (i + 1)) ρ1' fun ys ρ2 => k (.lst (xs ++ (o.toList ++ ys))) (backV ρ1 ρ2 tg)).den G) := i7
    rw [← hf] at i7
    obtain ⟨ρ3, hb3, i7⟩ := den_optK hns i7
    refine v4 x _ _ _ _ _ ρ3 _ i4 rx hb3 fun σ2 E2 hw => ⟨hw.trans wipe_wipe, ?_⟩
    have hw' : wipe σ2 tg = wipe σ tg := hw.trans wipe_wipe
    refine v3 false true σ2 H'' (hide lab A) ρ3 _ Ψ _ hns E2 (fun dc ρ4 z => let ⟨b, h, _⟩ := den_tri hns z; ⟨b, h⟩) (fun bb H3 dc ρ4 s3 E3 hdc hp3 => ?_) (fun z => nomatch z) i7
    have t3 : Stp (KS.E.comp e tg it c).tch lab H1 H3 := i5.thru s3 (fun i h => or_r h) hA E1.lok
    have r3 := i6.trans s3.rd
    have k3 : H3 A = some (.lst acc) := (s3.far A lh).trans i1
    obtain ⟨b', hb', hp3⟩ := den_tri hns hp3
    rw [hdc] at hb'
    cases hb'
    cases bb with
    | true =>
      show te σ2 H3 _
      refine v2 false false σ2 H3 (hide lab A) ρ4 _ Ψ _ hns E3 (fun y H4 dy ρ5 s4 E4 _ r4 hp4 => ?_) (fun z => nomatch z) hp3
      have t4 : Stp (KS.E.comp e tg it c).tch lab H1 H4 := t3.thru s4 (fun i h => or_l (or_l h)) hA E1.lok
      have k4 : H4 A = some (.lst acc) := (s4.far A lh).trans k3
      refine ⟨acc, k4, by rw [← lim_eq]; omega, rfl, hlt, acc ++ [y], xs ++ [dy], ρ5, upd_same, by rw [List.length_append]; show acc.length + 1 ≤ _; omega, ?_, ?_, t4.past hA E1.lok, ?_, ?_⟩
      · rw [FH_upd_own lh]
        exact RepAll.append (RepAll.mono (s3.rd.trans s4.rd) _ _ i3) (.cons (r4 rfl) .nil)
      · have := (E4.far (o := .lst (acc ++ [y])) lh notTup_lst).kills tg
        rw [hw'] at this
        exact this
      · rw [FH_upd_own lh]
        exact r3.trans s4.rd
      · have : ∀ ys : List D, xs ++ ((some dy : Option D).toList ++ ys) = (xs ++ [dy]) ++ ys := fun ys => by rw [List.append_assoc]; rfl
        have hp4 : Ψ ((compK f (ds.drop (i + 1)) ρ5 fun ys ρ2 => k (.lst (xs ++ ((some dy : Option D).toList ++ ys))) (backV ρ1 ρ2 tg)).den G) := by rw [← hf]; exact hp4
        simp only [this] at hp4
        exact hp4
    | false =>
      show Inv _ _ _
      refine ⟨rfl, hlt, acc, xs, ρ4, k3, Nat.le_succ_of_le i2, RepAll.mono s3.rd _ _ i3, ?_, t3, r3, ?_⟩
      · have := E3.kills tg
        rw [hw'] at this
        exact this
      · rw [← hf]; exact hp3
  · left
    have hi' : i = ds.length := by omega
    subst hi'
    refine ⟨(ok H' _ i6 FH_le).2, ?_⟩
    rw [List.drop_length] at i7
    have i7 : Ψ ((k (.lst (xs ++ [])) (backV ρ1 ρi tg)).den G) := i7
    rw [List.append_nil] at i7
    refine hq A H' (.lst xs) _ ((st s1).trans i5) ?_ (E1.back hown i6 i4) ⟨acc, i1, i3⟩ i7
    cases z : H A with
    | none => rfl
    | some o => exact (s1.mono A (by rw [z]; exact fun z => nomatch z) hA).elim
theorem sf_comp (C : Cok X T CT G N sc) {e : E} {tg : List Nat} {it : KS.It} {c : E} {elt tgt iter : Expr} {ifs : List Expr} {scope : Scope} {pos : Pos} (hi : SI X CT G iter it) (hset : setB iter = false) (ht : chkTg N scope tg tgt = true) (hb : blkC N sc scope (ownOf N tg) = true)
    (he : ∀ X', Cok X' T CT G N scope → SE X' CT G elt e) (hc : (ifs = [] ∧ c = .bl true) ∨ ∃ f, ifs = [f] ∧ ∀ X', Cok X' T CT G N scope → ST X' CT G f c) :
    SF X N sc CT G (.ListComp elt [⟨tgt, iter, ifs, 0⟩] scope pos) (.comp e tg it c) := fun W tk =>
  let ⟨t, h1, h2, h3⟩ := sf_compP (pos := pos) C hi.p hset ht hb he hc W tk
  ⟨t, h1, h2, fun x b σ H lab ρ k Ψ Q hs En hq hx hp => h3 x b σ H lab ρ k Ψ Q hs En trivial hq hx hp⟩
/-! ### a dict walked: it is locked meanwhile -/
section
variable {K : PySem.W.Frag} {σ : St} {H H' : Hp} {lab lab' : Lab} {ρ : Env} {a p : Addr} {od : Obj} {vs : List (Key × V)}
def relab (lab : Lab) (p : Addr) (o : Option Lb) : Lab := fun a => if a = p then o else lab a
theorem relab_ne {lab : Lab} {p a : Addr} {o : Option Lb} (h : a ≠ p) : relab lab p o a = lab a := if_neg h
theorem relab_same {lab : Lab} {p : Addr} {o : Option Lb} : relab lab p o p = o := if_pos rfl
theorem rd_lock (ha : H a = some (.dK vs)) : RdW (FH H lab) (FH (upd H a (.frz od (.dK vs))) lab) := ⟨fun b u _ r => by
    by_cases z : b = a
    · subst z
      rcases r with r | ⟨o, r⟩
      · obtain ⟨r, l⟩ := FH_eq r
        rw [ha] at r
        cases r
        exact .inr ⟨od, by rw [FH_of l]; exact upd_same⟩
      · have := (FH_eq r).1
        rw [ha] at this
        cases this
    · have e : FH (upd H a (.frz od (.dK vs))) lab b = FH H lab b := by unfold FH; rw [upd_ne z]
      unfold Rd
      rw [e]
      exact r, fun b o s r => by
    by_cases z : b = a
    · subst z
      have := (FH_eq r).1
      rw [ha] at this
      cases this
      exact s.elim
    · have e : FH (upd H a (.frz od (.dK vs))) lab b = FH H lab b := by unfold FH; rw [upd_ne z]
      rw [e]
      exact r⟩
theorem rd_unlock (ha : H a = some (.frz od (.dK vs))) : RdW (FH H lab) (FH (upd H a (.dK vs)) lab) := ⟨fun b u pl r => by
    by_cases z : b = a
    · subst z
      rcases r with r | ⟨o, r⟩
      · obtain ⟨r, l⟩ := FH_eq r
        rw [ha] at r
        cases r
        exact pl.elim
      · obtain ⟨r, l⟩ := FH_eq r
        rw [ha] at r
        cases r
        exact .inl (by rw [FH_of l]; exact upd_same)
    · have e : FH (upd H a (.dK vs)) lab b = FH H lab b := by unfold FH; rw [upd_ne z]
      unfold Rd
      rw [e]
      exact r, fun b o s r => by
    by_cases z : b = a
    · subst z
      have := (FH_eq r).1
      rw [ha] at this
      cases this
      exact s.elim
    · have e : FH (upd H a (.dK vs)) lab b = FH H lab b := by unfold FH; rw [upd_ne z]
      rw [e]
      exact r⟩
theorem OAt.moveW {i : Nat} {sv : SV} {v : V} (hl : ∀ a j, lab a = some (.loc i j) → lab' a = some (.loc i j) ∧ H' a = H a) (rd : RdW (FH H lab) (FH H' lab')) (h : OAt K H lab i sv v) : OAt K H' lab' i sv v := by
  cases sv with
  | dead => trivial
  | dat d => exact Rep.monoW rd _ _ h
  | ol ds =>
    obtain ⟨p, xs, e1, e2, e3, e4⟩ := h
    exact ⟨p, xs, e1, (hl _ _ e2).1, (hl _ _ e2).2.trans e3, RepAll.monoW rd _ _ e4⟩
  | od ds =>
    obtain ⟨p, xs, e1, e2, e3, e4⟩ := h
    exact ⟨p, xs, e1, (hl _ _ e2).1, (hl _ _ e2).2.trans e3, RepKV.monoW rd _ _ e4⟩
  | ob _ _ =>
    obtain ⟨p, L, e1, e2, e3⟩ := h
    exact ⟨p, L, e1, e2.moveW rd fun q hq => (hl _ _ (e3 q hq)).2, fun q hq => (hl _ _ (e3 q hq)).1⟩
/-- one unlabelled thing changes its lock -/
theorem EnvOk.lk {o : HO} (E : EnvOk K σ H lab ρ) (la : lab a = none) (rd : RdW (FH H lab) (FH (upd H a o) lab)) : EnvOk K σ (upd H a o) lab ρ := by
  have np : ∀ {b l}, lab b = some l → b ≠ a := fun {b l} e z => by rw [z, la] at e; cases e
  refine ⟨fun b l e => by rw [upd_ne (np e)]; exact E.lok b l e, fun b l xs e r => ?_, E.len, fun i sv e n => ?_⟩
  · unfold Rd at r
    rw [upd_ne (np e)] at r
    exact E.tf b l xs e r
  · obtain ⟨v, h1, h2⟩ := E.at_ i sv e n
    exact ⟨v, h1, h2.moveW (fun b j e => ⟨e, upd_ne (np e)⟩) rd⟩
/-- an own dict is locked: it is looked at as data -/
theorem EnvOk.lkOwn {i : Nat} {kvs : List (Ky × D)} (E : EnvOk K σ H lab ρ) (hi : i < ρ.length) (hσ : σ[i]? = some (some (.ref a))) (la : lab a = some (.loc i 0)) (ha : H a = some (.dK vs)) (r : RepKV K (FH H lab) kvs vs) :
    EnvOk K σ (upd H a (.frz od (.dK vs))) (relab lab a none) (ρ.set i (.dat (.dic kvs))) ∧ RepKV K (FH (upd H a (.frz od (.dK vs))) (relab lab a none)) kvs vs := by
  have ne : ∀ {b l}, relab lab a none b = some l → b ≠ a := fun {b l} e z => by rw [z, relab_same] at e; cases e
  have rd : RdLe (FH H lab) (FH (upd H a (.frz od (.dK vs))) (relab lab a none)) := rd_of fun b e n => by
    have z : b ≠ a := fun z => by rw [z, la] at e; cases e
    exact ⟨by rw [relab_ne z]; exact e, upd_ne z⟩
  have rk := RepKV.mono rd _ _ r
  refine ⟨⟨fun b l e => ?_, fun b l xs e q => ?_, by rw [List.length_set]; exact E.len, fun j sv e n => ?_⟩, rk⟩
  · have z := ne e
    rw [relab_ne z] at e
    rw [upd_ne z]
    exact E.lok b l e
  · have z := ne e
    rw [relab_ne z] at e
    unfold Rd at q
    rw [upd_ne z] at q
    exact E.tf b l xs e q
  · by_cases hj : j = i
    · subst hj
      rw [List.getElem?_set_self hi] at e
      cases e
      refine ⟨.ref a, hσ, ?_⟩
      show Rep K _ (.dic kvs) (.ref a)
      rw [Rep]
      exact ⟨a, vs, rfl, .inr ⟨od, by rw [FH_of relab_same]; exact upd_same⟩, rk⟩
    · rw [List.getElem?_set_ne (Ne.symm hj)] at e
      obtain ⟨v, h1, h2⟩ := E.at_ j sv e n
      refine ⟨v, h1, h2.move (fun b l e => ?_) rd⟩
      have z : b ≠ a := fun z => by
        rw [z, la] at e
        injection e with e
        injection e with e1 e2
        exact hj e1.symm
      exact ⟨by rw [relab_ne z]; exact e, upd_ne z⟩
theorem Rep.scalar {F F' : Hp} {d : D} {v : V} (h : d.scalar = true) (r : Rep K F d v) : Rep K F' d v := by
  cases d with
  | non => rw [Rep] at r ⊢; exact r
  | bl _ => rw [Rep] at r ⊢; exact r
  | int _ => rw [Rep] at r ⊢; exact r
  | str _ => rw [Rep] at r ⊢; exact r
  | _ => cases h
theorem RepAll.scalar {F F' : Hp} : ∀ {ds : List D} {xs : List V}, ds.all D.scalar = true → RepAll K F ds xs → RepAll K F' ds xs
  | [], _, _, r => by rw [RepAll] at r ⊢; exact r
  | d :: ds, xs, h, r => by
    rw [List.all_cons] at h
    rw [RepAll] at r ⊢
    obtain ⟨x, xs, e, r1, r2⟩ := r
    exact ⟨x, xs, e, r1.scalar (and2 h).1, r2.scalar (and2 h).2⟩
/-- the step of a locked stretch, unlocked again -/
theorem Stp.unlk {t : Nat → Bool} {u : HO} (s : Stp t lab' (upd H a (.frz od (.dK vs))) H') (ha : H a = some u) (hl : ∀ b, b ≠ a → lab' b = lab b) : Stp t lab H (upd H' a u) := by
  refine ⟨fun b e n => ?_, fun b i j e n => ?_, fun b e => ?_, fun b n => ?_⟩
  all_goals by_cases z : b = a
  · rw [z, upd_same]; exact ha.symm
  · rw [upd_ne z, s.fro b (by rw [hl b z]; exact e) (by rw [upd_ne z]; exact n), upd_ne z]
  · rw [z, upd_same]; exact ha.symm
  · rw [upd_ne z, s.keep b i j (by rw [hl b z]; exact e) n, upd_ne z]
  · rw [z, upd_same]; exact ha.symm
  · rw [upd_ne z, s.far b (by rw [hl b z]; exact e), upd_ne z]
  · rw [z, upd_same]; exact fun z => nomatch z
  · rw [upd_ne z]; exact s.mono b (by rw [upd_ne z]; exact n)
/-- a new thing p, seen from the names -/
theorem EnvOk.see (E : EnvOk K σ H lab ρ) (s : Stp (fun _ => false) lab H H') (hp : H p = none) (hp' : H' p ≠ none) (nt : ∀ xs, ¬ Rd H' p (.tup xs)) : EnvOk K σ H' (KS.hide lab p) ρ := by
  have E1 := E.step s
  have lp := lab_new E.lok hp
  have np : ∀ {b l}, lab b = some l → b ≠ p := fun {b l} e z => by rw [z, lp] at e; cases e
  refine ⟨fun b l e => ?_, fun b l xs e r => ?_, E.len, fun i sv e n => ?_⟩
  · by_cases z : b = p
    · rw [z]; exact hp'
    · rw [hide_ne z] at e; exact E1.lok b l e
  · by_cases z : b = p
    · subst z; exact nt xs r
    · rw [hide_ne z] at e; exact E1.tf b l xs e r
  · obtain ⟨v, h1, h2⟩ := E.at_ i sv e n
    refine ⟨v, h1, h2.move (fun b j e => ⟨by rw [hide_ne (np e)]; exact e, s.keep b i j e rfl⟩) (rd_of fun b e n => ?_)⟩
    have z : b ≠ p := fun z => n (by rw [z]; exact hp)
    exact ⟨by rw [hide_ne z]; exact e, s.fro b e n⟩
end
theorem pe_or {e : Expr} {t t' : TE} (h : PE X e t) (h' : PE X e t') : PE X e fun σ H Q => t σ H Q ∨ t' σ H Q := ⟨fun pins s σ H Q I q => by
  rcases q with q | q
  · exact h.run pins s σ H Q I q
  · exact h'.run pins s σ H Q I q⟩
theorem ps_or {st : Stmt} {t t' : TS} (h : PS X st t) (h' : PS X st t') : PS X st fun D σ H => t D σ H ∨ t' D σ H := ⟨fun pins s σ H D I q => by
  rcases q with q | q
  · exact h.run pins s σ H D I q
  · exact h'.run pins s σ H D I q⟩
theorem ps_imp {st : Stmt} {t t' : TS} (h : PS X st t) (i : ∀ D σ H, t' D σ H → t D σ H) : PS X st t' := ⟨fun pins s σ H D I q => h.run pins s σ H D I (i D σ H q)⟩
theorem datV_some {ρ ρ1 : Env} {i : Nat} (h : datV ρ i = some ρ1) : (∃ kvs, ρ[i]? = some (.od kvs) ∧ ρ1 = ρ.set i (.dat (.dic kvs))) ∨ (∃ kvs, ρ[i]? = some (.dat (.dic kvs)) ∧ ρ1 = ρ) := by
  unfold datV at h
  split at h
  · rename_i kvs e; exact .inl ⟨kvs, e, (Option.some.inj h).symm⟩
  · rename_i kvs e; exact .inr ⟨kvs, e, (Option.some.inj h).symm⟩
  · cases h
theorem sf_dat (C : Cok X T CT G N sc) {i : Nat} {y : Str} {px : Pos} (hn : nameB N sc i y = true) {e : E} {tg : List Nat} {c : E} {elt tgt : Expr} {ifs : List Expr} {scope : Scope} {pos : Pos} (ht : chkTg N scope tg tgt = true) (hb : blkC N sc scope (ownOf N tg) = true)
    (he : ∀ X', Cok X' T CT G N scope → SE X' CT G elt e) (hc : (ifs = [] ∧ c = .bl true) ∨ ∃ f, ifs = [f] ∧ ∀ X', Cok X' T CT G N scope → ST X' CT G f c) :
    SF X N sc CT G (.ListComp elt [⟨tgt, .Name y px, ifs, 0⟩] scope pos) (.asDat i (.comp e tg (.keys (.var i)) c)) := by
  intro W tk
  obtain ⟨t, p1, p2, v1⟩ := sf_compP (pos := pos) C (sip_keys (pos := px) C hn) rfl ht hb he hc W tk
  refine ⟨fun σ H Q => t σ H Q ∨ tLockE t σ H Q, pe_or p1 (pe_lock p1), fun j x px spos h1 h2 => ?_, fun xx b σ H lab ρ k Ψ Q hs En hq hx hp => ?_⟩
  · refine ps_imp (ps_or (p2 j x px spos h1 h2) (ps_lock (p2 j x px spos h1 h2))) fun D σ H q => ?_
    rcases q with q | q
    · exact .inl q
    · exact .inr q
  obtain ⟨st, hp⟩ := den_unK hs hp
  have hst : (E.comp e tg (.keys (.var i)) c).still = true := by simpa using st
  have tch : (E.comp e tg (.keys (.var i)) c).tch = fun _ => false := funext fun j => still_tch _ hst j
  obtain ⟨ρ1, hd, hp⟩ := den_optK hs hp
  let Ψ1 : RF → Prop := fun rf => Ψ (KS.T.den G (match rf with
    | .ok d _ => KS.T.un (!flatL d) fun _ => k d ρ
    | _ => .stuck))
  have hp1 : Ψ1 ((evK false false (E.comp e tg (.keys (.var i)) c) ρ1 fun d ρ2 => .ok d ρ2).den G) := hp
  have hs1 : ¬ Ψ1 .stuck := hs
  have fin : ∀ {d : D} {ρ2 : Env}, Ψ1 ((KS.T.ok d ρ2).den G) → ∃ xs, d = .lst xs ∧ xs.all D.scalar = true ∧ Ψ ((k d ρ).den G) := fun {d ρ2} h => by
    have h : Ψ ((KS.T.un (!flatL d) fun _ => k d ρ).den G) := h
    obtain ⟨h1, h2⟩ := den_unK hs h
    cases d with
    | lst xs => exact ⟨xs, rfl, by simpa [flatL] using h1, h2⟩
    | _ => cases h1
  have hi : ∀ {sv}, ρ[i]? = some sv → i < ρ.length := fun {sv} e => by
    rcases Nat.lt_or_ge i ρ.length with q | q
    · exact q
    · rw [List.getElem?_eq_none q] at e; cases e
  have oc : ∀ {p : Addr} {H1 H2 F1 F2 : Hp} {xs : List D}, H2 p = H1 p → xs.all D.scalar = true → OC X.K H1 F1 p (svOf (.lst xs)) → OC X.K H2 F2 p (svOf (.lst xs)) := fun {p H1 H2 F1 F2 xs} e1 e2 ⟨ys, e3, e4⟩ => ⟨ys, e1.trans e3, e4.scalar e2⟩
  have ntl : ∀ {p : Addr} {H1 F1 : Hp} {xs : List D}, OC X.K H1 F1 p (svOf (.lst xs)) → ∀ zs, ¬ Rd H1 p (.tup zs) := fun {p H1 F1 xs} ⟨ys, e3, e4⟩ zs r => by
    rcases r with r | ⟨o, r⟩ <;> (rw [e3] at r; cases r)
  have nn : ∀ {p : Addr} {H1 F1 : Hp} {xs : List D}, OC X.K H1 F1 p (svOf (.lst xs)) → H1 p ≠ none := fun {p H1 F1 xs} ⟨ys, e3, e4⟩ => by rw [e3]; exact fun z => nomatch z
  rcases datV_some hd with ⟨kvs, e1, rfl⟩ | ⟨kvs, e1, rfl⟩
  · -- an own dict
    right
    obtain ⟨v, hv, p0, vs, rfl, e2, e3, e4⟩ := En.at_ i _ e1 (fun z => nomatch z)
    refine ⟨p0, .dK vs, e3, trivial, fun od => ?_⟩
    obtain ⟨E1, r1⟩ := En.lkOwn (od := od) (hi e1) hv e2 e3 e4
    refine v1 false false σ _ _ _ _ Ψ1 _ hs1 E1 ⟨p0, od, kvs, vs, by rw [List.getElem?_set_self (hi e1)], hv, relab_same, upd_same, r1⟩ (fun p H' d ρ2 s hp0 E2 o2 hz => ?_) (fun z => nomatch z) hp1
    obtain ⟨xs, rfl, f1, f2⟩ := fin (d := d) (ρ2 := ρ2) hz
    have k1 : H' p0 = some (.frz od (.dK vs)) := (s.fro p0 relab_same (by rw [upd_same]; exact fun z => nomatch z)).trans upd_same
    have np : p ≠ p0 := fun z => by rw [z, upd_same] at hp0; cases hp0
    have hpn : H p = none := by rw [upd_ne np] at hp0; exact hp0
    rw [tch] at s
    have s' : Stp (fun _ => false) lab H (upd H' p0 (.dK vs)) := s.unlk e3 fun b z => relab_ne z
    have o3 := oc (H2 := upd H' p0 (.dK vs)) (F2 := FH (upd H' p0 (.dK vs)) (hide lab p)) (upd_ne np) f1 o2
    exact ⟨k1, hq p _ _ ρ (s'.imp fun i h => nomatch h) hpn (En.see s' hpn (nn o3) (ntl o3)) o3 f2⟩
  · obtain ⟨v, hv, r⟩ := En.at_ i _ e1 (fun z => nomatch z)
    have r : Rep X.K (FH H lab) (.dic kvs) v := r
    rw [Rep] at r
    obtain ⟨a, vs, rfl, ra, rk⟩ := r
    rcases ra with ra | ⟨od, ra⟩
    · -- data that is locked here
      right
      obtain ⟨ha, la⟩ := FH_eq ra
      refine ⟨a, .dK vs, ha, trivial, fun od => ?_⟩
      have w := rd_lock (lab := lab) (od := od) ha
      have E1 := En.lk la w
      refine v1 false false σ _ _ _ _ Ψ1 _ hs1 E1 ⟨a, od, kvs, vs, e1, hv, la, upd_same, RepKV.monoW w _ _ rk⟩ (fun p H' d ρ2 s hp0 E2 o2 hz => ?_) (fun z => nomatch z) hp1
      obtain ⟨xs, rfl, f1, f2⟩ := fin (d := d) (ρ2 := ρ2) hz
      have k1 : H' a = some (.frz od (.dK vs)) := (s.fro a la (by rw [upd_same]; exact fun z => nomatch z)).trans upd_same
      have np : p ≠ a := fun z => by rw [z, upd_same] at hp0; cases hp0
      have hpn : H p = none := by rw [upd_ne np] at hp0; exact hp0
      rw [tch] at s
      have s' : Stp (fun _ => false) lab H (upd H' a (.dK vs)) := s.unlk ha fun b z => rfl
      have o3 := oc (H2 := upd H' a (.dK vs)) (F2 := FH (upd H' a (.dK vs)) (hide lab p)) (upd_ne np) f1 o2
      exact ⟨k1, hq p _ _ _ (s'.imp fun i h => nomatch h) hpn (En.see s' hpn (nn o3) (ntl o3)) o3 f2⟩
    · -- .. that is locked already
      left
      obtain ⟨ha, la⟩ := FH_eq ra
      refine v1 false false σ _ _ _ _ Ψ1 _ hs1 En ⟨a, od, kvs, vs, e1, hv, la, ha, rk⟩ (fun p H' d ρ2 s hp0 E2 o2 hz => ?_) (fun z => nomatch z) hp1
      obtain ⟨xs, rfl, f1, f2⟩ := fin (d := d) (ρ2 := ρ2) hz
      rw [tch] at s
      exact hq p _ _ _ (s.imp fun i h => nomatch h) hp0 (En.see s hp0 (nn o2) (ntl o2)) o2 f2
end
end KS

set_option Elab.async false
set_option linter.all false
set_option maxRecDepth 100000
/-! SX: isinstance asked of error classes; {k: v}. -/
namespace KS
open PySem L2
section
variable {K : PySem.W.Frag} {mg : Str → Option Value}
theorem XFacts.one {xc : Nat → Bool} (F : XFacts xc K mg) {c d : Nat} {C D : Addr} (h : IsX K c C) (g : IsX K d D) : PySem.W.kitOne K (.ref C) (.ref D) = some (excSub c d) := by
  unfold PySem.W.kitOne
  by_cases e : ((Value.ref C) == (Value.ref D)) = true
  · rw [if_pos e]
    have e : C = D := by injection (beq_iff_eq.mp e)
    subst e
    have h1 := F.sub c d C C h g
    have h2 := F.sub c c C C h h
    rw [h1] at h2
    rw [h2]
    unfold excSub
    simp
  · rw [if_neg e]
    exact F.sub c d C D h g
theorem XFacts.oneV {xc : Nat → Bool} (F : XFacts xc K mg) {c : Nat} {C : Addr} (h : IsX K c C) : PySem.W.kitOne K (.ref C) (.type "ValueError") = some true := by
  unfold PySem.W.kitOne
  rw [if_neg (by intro z; have := beq_iff_eq.mp z; cases this)]
  exact F.ve c C h
theorem XFacts.oneN {xc : Nat → Bool} (F : XFacts xc K mg) {d : Nat} {D : Addr} (g : IsX K d D) : PySem.W.kitOne K (.type "NoneType") (.ref D) = some false := by
  unfold PySem.W.kitOne
  rw [if_neg (by intro z; have := beq_iff_eq.mp z; cases this)]
  exact F.nn d D g
theorem XFacts.exm {xc : Nat → Bool} (F : XFacts xc K mg) {c d : Nat} {C D : Addr} (h : IsX K c C) (g : IsX K d D) : PySem.W.exmOne K (.ref C) (.ref D) = some (excSub c d) := by
  obtain ⟨D', g1, _, _, g4, _⟩ := F.cl d ⟨g.1, F.has d _ g⟩
  obtain rfl := g.inj g1
  unfold PySem.W.exmOne
  rw [if_pos (by rw [g4.hs]; rfl)]
  exact F.sub c d C D h g
/-- the class of a value that isinstance is asked of: None, an error -/
inductive TyE (K : PySem.W.Frag) (H : Hp) : V → Value → Prop where
  | non : TyE K H .non (.type "NoneType")
  | exc {a D : Addr} {dx : Option Addr} (e : H a = some (exHO D dx a)) (d : ∀ x, dx = some x → H x ≠ none) (c : ExcC K D) : TyE K H (.ref a) (.ref D)
theorem kitE_of {X : Cx} {pins : List (Addr × Obj)} {σ : L2.St} {H : Hp} {s : Shared} {x : V} {u t : Value} (I : Inv X pins σ H s) (rx : RelV x u) (ty : TyE X.K H x t) : ∃ P : Heap → Prop, PySem.W.KitX X.K u t P ∧ P s.heap ∧ u ≠ .builtin "__main__.__loader__#opaque" := by
  cases ty with
  | non => cases (show u = Value.none from rx); exact ⟨_, PySem.W.kitx_none, True.intro, fun z => nomatch z⟩
  | @exc a D dx e d c =>
    cases (show u = Value.ref a from rx)
    obtain ⟨⟨oe, vs, g1, ⟨g2, g3⟩, g4⟩, _⟩ := I.hok a _ e
    have hcl : (PySem.W.clsIn X.K D).isSome = true := by
      obtain ⟨cd, hc, _⟩ := PySem.W.any_some c.hd
      rw [hc]; rfl
    cases dx with
    | none => exact ⟨_, PySem.W.kitx_exc (od := none) hcl c.hg c.hk c.hs c.ha c.hn c.ht c.hm, (⟨g1, g2, by unfold PySem.W.notCls; rw [g4], by rw [g3]; trivial⟩ : PySem.W.InstAt s.heap a oe D none), fun z => nomatch z⟩
    | some x =>
      obtain ⟨od, ho⟩ : ∃ od, s.heap.get? x = some od := by
        cases hx : H x with
        | none => exact (d x rfl hx).elim
        | some u => exact objOk_get (I.hok x u hx)
      exact ⟨_, PySem.W.kitx_exc (od := some od) hcl c.hg c.hk c.hs c.ha c.hn c.ht c.hm, (⟨g1, g2, by unfold PySem.W.notCls; rw [g4], by rw [g3]; exact ho⟩ : PySem.W.InstAt s.heap a oe D (some od)), fun z => nomatch z⟩
def rIsE1 (K : PySem.W.Frag) : List V → Hp → VK → Prop := fun xs H Q => ∃ (x c : V) (t u : Value) (b : Bool), xs = [x, c] ∧ ClsV c u ∧ TyE K H x t ∧ PySem.W.kitOne K t u = some b ∧ Q (.bl b) H
def rIsE2 (K : PySem.W.Frag) : List V → Hp → VK → Prop := fun xs H Q => ∃ (x : V) (tp : Addr) (cs : List V) (t : Value) (us : List Value) (b : Bool), xs = [x, .ref tp] ∧ H tp = some (.tup cs) ∧ Paired ClsV cs us ∧ TyE K H x t ∧ PySem.W.kitAny K t us = some b ∧ Q (.bl b) H
theorem call_isE1 {X : Cx} : CallR X (.builtin "isinstance") (rIsE1 X.K) := by
  intro pins s σ H xs us Q I r h
  obtain ⟨x, c, t, u, b, rfl, k, ty, e, q⟩ := h
  obtain ⟨u1, u2, rfl, r1, r2⟩ := vals2 r
  have e2 := k.eq r2
  subst e2
  obtain ⟨P, Z, p, hx⟩ := kitE_of I r1 ty
  exact PySem.W.kia_one Z I.kIn p e hx fun tk => ⟨.bl b, H, I.tok tk, rfl, q⟩
theorem call_isE2 {X : Cx} : CallR X (.builtin "isinstance") (rIsE2 X.K) := by
  intro pins s σ H xs us Q I r h
  obtain ⟨x, tp, cs, t, ws, b, rfl, hT, k, ty, e, q⟩ := h
  obtain ⟨u1, u2, rfl, r1, r2⟩ := vals2 r
  cases (show u2 = Value.ref tp from r2)
  obtain ⟨P, Z, p, hx⟩ := kitE_of I r1 ty
  obtain ⟨_, its, rv, o, h1, h2, n, h3⟩ := (show ObjOk X.prog X.w H s.heap tp (.tup cs) from I.hok tp _ hT)
  have e3 := ClsV.all k rv
  subst e3
  obtain ⟨oc, od, dt, sl⟩ := o
  simp only at h2 h3
  subst h2 h3
  exact PySem.W.kia_tup Z I.kIn p h1 e hx fun tk => ⟨.bl b, H, I.tok tk, rfl, q⟩
end
theorem RepT.nw {K : PySem.W.Frag} {H : Hp} {lab : Lab} {d : D} {v : V} {q : Addr} {o : HO} (ok : LabOk lab H) (hq : H q = none) (h : RepT K H (FH H lab) d v) : RepT K (upd H q o) (FH (upd H q o) lab) d v := by
  have s : Stp (fun _ => false) lab H (upd H q o) := Stp.new ok hq
  have rd := s.rd
  have hn : ∀ {a u}, H a = some u → upd H q o a = some u := fun {a u} e => (upd_ne (fun z => by rw [z, hq] at e; cases e)).trans e
  cases d with
  | tup ds =>
    obtain ⟨p, xs, ep, e2, e3⟩ := h
    refine ⟨p, xs, ep, ?_, RepAll.mono rd _ _ e3⟩
    rcases e2 with e2 | e2
    · left; rcases e2 with e2 | ⟨ob, e2⟩
      · exact .inl (hn e2)
      · exact .inr ⟨ob, hn e2⟩
    · exact .inr e2
  | lst ds =>
    obtain ⟨p, xs, ep, e2, e3⟩ := h
    exact ⟨p, xs, ep, hn e2, RepAll.mono rd _ _ e3⟩
  | dic ds =>
    obtain ⟨p, xs, ep, e2, e3⟩ := h
    refine ⟨p, xs, ep, ?_, RepKV.mono rd _ _ e3⟩
    rcases e2 with e2 | ⟨ob, e2⟩
    · exact .inl (hn e2)
    · exact .inr ⟨ob, hn e2⟩
  | scr ns =>
    obtain ⟨p, ep, e2⟩ := h
    refine ⟨p, ep, ?_⟩
    rcases e2 with e2 | e2
    · left; rcases e2 with e2 | ⟨ob, e2⟩
      · exact .inl (hn e2)
      · exact .inr ⟨ob, hn e2⟩
    · exact .inr e2
  | non => exact Rep.mono rd _ _ (show Rep K _ .non _ from h)
  | bl b => exact Rep.mono rd _ _ (show Rep K _ (.bl b) _ from h)
  | int b => exact Rep.mono rd _ _ (show Rep K _ (.int b) _ from h)
  | str b => exact Rep.mono rd _ _ (show Rep K _ (.str b) _ from h)
  | exc c l => exact Rep.mono rd _ _ (show Rep K _ (.exc c l) _ from h)
section
variable {X : Cx} {T : Tb} {CT : Ct} {G : Gm} {N : List Str} {sc : Scope}
/-- the value of a class's name -/
theorem px_of (C : Cok X T CT G N sc) {c : Nat} {y : Str} {pos : Pos} (h : chkX T sc c y = true) : ∃ (v : V) (u : Value), PE X (.Name y pos) (tC v) ∧ ClsV v u ∧ T.xs = true ∧ ((c < 5 ∧ ∃ D, IsX X.K c D ∧ u = .ref D) ∨ (c = 5 ∧ u = .type "ValueError")) := by
  unfold chkX at h
  rw [Bool.and_eq_true, Bool.and_eq_true, Bool.and_eq_true, Bool.or_eq_true] at h
  obtain ⟨⟨⟨h1, h2⟩, h3⟩, h4⟩ := h
  have F := C.xs h1
  rcases h4 with h4 | h4
  · rw [Bool.and_eq_true] at h4
    have l := of_decide_eq_true h4.1
    have e := of_decide_eq_true h4.2
    obtain ⟨D, g1, g2, _⟩ := F.cl c l
    rw [e] at g2
    exact ⟨.ref D, .ref D, pe_glob (C.glo h2) g2 rfl (dbg_of h3).1, .own D, h1, .inl ⟨l.1, D, g1, rfl⟩⟩
  · rw [Bool.and_eq_true] at h4
    have l := of_decide_eq_true h4.1
    obtain rfl := of_decide_eq_true h4.2
    exact ⟨.ty "ValueError", .type "ValueError", pe_bltn (C.glo h2) (C.blt (by decide)) (by decide +kernel) rfl, .ty _, h1, .inr ⟨l, rfl⟩⟩
/-- the type of the thing and what the classes answer -/
theorem ty_exc {K : PySem.W.Frag} {mg : Str → Option Value} {xc : Nat → Bool} (F : XFacts xc K mg) {H : Hp} {lab : Lab} {d : D} {v : V} {cs : List Nat} {b : Bool} (hr : RepT K H (FH H lab) d v) (e : isiD d (.exc cs) = some b) :
    ∃ t, TyE K H v t ∧ ((d = .non ∧ b = false ∧ t = .type "NoneType") ∨ ∃ c C, b = cs.any (excSub c) ∧ IsX K c C ∧ t = .ref C) := by
  cases d with
  | non => cases e; rw [hr.non]; exact ⟨_, .non, .inl ⟨rfl, rfl, rfl⟩⟩
  | exc c pl =>
    cases e
    have hr : Rep K (FH H lab) (.exc c pl) v := hr
    rw [Rep] at hr
    obtain ⟨a, C, dx, xs, rfl, e2, e3, e4, e5⟩ := hr
    obtain ⟨C', g1, _, _, g4, _⟩ := F.cl c ⟨e3.1, F.has c _ e3⟩
    obtain rfl := e3.inj g1
    refine ⟨_, .exc (FH_eq e2).1 (fun x hx => ?_) g4, .inr ⟨c, C, rfl, e3, rfl⟩⟩
    rcases e5 with ⟨_, h⟩ | ⟨y, d', _, h, r⟩
    · rw [h] at hx; cases hx
    · rw [h] at hx
      cases hx
      rcases r with r | ⟨o, r⟩
      · rw [(FH_eq r).1]; exact fun z => nomatch z
      · rw [(FH_eq r).1]; exact fun z => nomatch z
  | _ => cases e
/-- the values of a tuple's class names -/
theorem pxs_of (C : Cok X T CT G N sc) : ∀ {cs : List Nat} {es : List Expr}, chkXs T sc cs es = true → ∃ (vs : List V) (us : List Value), PA X es (fun _ H Q => Q vs H) ∧ Paired ClsV vs us ∧ vs.length = cs.length ∧ (cs ≠ [] → T.xs = true) ∧
    ((T.xs = true → PySem.W.kitAny X.K (.type "NoneType") us = some false) ∧ ∀ c D, IsX X.K c D → T.xs = true → PySem.W.kitAny X.K (.ref D) us = some (cs.any (excSub c)))
  | [], [], _ => ⟨[], [], pa_nil, .nil, rfl, fun z => (z rfl).elim, fun _ => rfl, fun _ _ _ _ => rfl⟩
  | c :: cs, .Name y p :: es, h => by
    rw [chkXs, Bool.and_eq_true, Bool.and_eq_true] at h
    obtain ⟨vs, us, h1, h2, h3, h4, h5, h6⟩ := pxs_of C h.2
    obtain ⟨v, u, g1, g2, g3, g4⟩ := px_of C (pos := p) h.1.2
    have l := (of_decide_eq_true h.1.1).1
    have F := C.xs g3
    rcases g4 with ⟨_, E, e1, rfl⟩ | ⟨e1, _⟩
    · refine ⟨v :: vs, .ref E :: us, pa_cons g1 h1 rfl, .cons g2 h2, by rw [List.length_cons, List.length_cons, h3], fun _ => g3, fun _ => ?_, fun c' D' hD _ => ?_⟩
      · show (match PySem.W.kitOne X.K (.type "NoneType") (.ref E) with
          | some true => some true
          | some false => PySem.W.kitAny X.K (.type "NoneType") us
          | none => none) = _
        rw [F.oneN e1]
        exact h5 g3
      · show (match PySem.W.kitOne X.K (.ref D') (.ref E) with
          | some true => some true
          | some false => PySem.W.kitAny X.K (.ref D') us
          | none => none) = _
        rw [F.one hD e1, List.any_cons]
        cases excSub c' c with
        | true => rfl
        | false => exact h6 c' D' hD g3
    · omega
theorem se_isx (C : Cok X T CT G N sc) {a : E} {cs : List Nat} {e y : Expr} {x : Str} {p pos : Pos} (hx : x = "isinstance") (g1 : glB sc x = true) (h1 : starB e = false) (ha : SE X CT G e a) (hc : chkIs T sc cs y = true) :
    SE X CT G (.Call (.Name x p) [e, y] [] pos) (.isi a (.exc cs)) := by
  subst hx
  intro W tk
  obtain ⟨t, p1, v1⟩ := ha W tk
  unfold chkIs at hc
  split at hc
  · rename_i c y p2
    obtain ⟨v, u, k1, k2, k3, k4⟩ := px_of C (pos := p2) hc
    have F := C.xs k3
    have pa : PA X [e, .Name y p2] (tCons t (tCons (tC v) tNil)) := pa_cons p1 (pa_cons k1 pa_nil) (star_cons h1)
    refine ⟨_, pe_callB call_isE1 (C.glo g1) (C.blt (by decide)) PyProof.Rows.boot_isinstance pa (by decide) (by decide) (star_cons h1), fun xx bb σ H lab ρ k Ψ Q hs En hq hx hp => ?_⟩
    refine v1 xx true σ H lab ρ _ Ψ _ hs En (fun w H1 d ρ1 s1 E1 r1 _ hp1 => ?_) hx hp
    obtain ⟨d', hd, hp1⟩ := den_ofK hs hp1
    obtain ⟨b, hb, rfl⟩ := Option.map_eq_some_iff.mp hd
    obtain ⟨tt, t1, t2⟩ := ty_exc F r1.top hb
    refine ⟨w, v, tt, u, b, rfl, k2, t1, ?_, hq _ H1 _ ρ1 s1 E1 (.inl rep_bl) (fun _ => rep_bl) hp1⟩
    rcases k4 with ⟨_, D', e1, rfl⟩ | ⟨e1, rfl⟩
    · rcases t2 with ⟨_, rfl, rfl⟩ | ⟨c', C', rfl, e2, rfl⟩
      · exact F.oneN e1
      · rw [F.one e2 e1]; simp
    · rcases t2 with ⟨_, rfl, rfl⟩ | ⟨c', C', rfl, e2, rfl⟩
      · exact kit_ty (by decide +kernel)
      · rw [F.oneV e2, e1]; simp [excSub]
  · rename_i c c2 cs es kk p2
    rw [Bool.and_eq_true] at hc
    obtain ⟨hc, hc2⟩ := hc
    obtain ⟨vs, us, k1, k2, k3, k4, k5, k6⟩ := pxs_of C hc
    have g3 := k4 (fun z => nomatch z)
    have F := C.xs g3
    have pt : PE X (.Tuple es kk p2) (tTup fun _ H Q => Q vs H) := pe_tup k1
    have pa : PA X [e, .Tuple es kk p2] (tCons t (tCons (tTup fun _ H Q => Q vs H) tNil)) := pa_cons p1 (pa_cons pt pa_nil) (star_cons h1)
    refine ⟨_, pe_callB call_isE2 (C.glo g1) (C.blt (by decide)) PyProof.Rows.boot_isinstance pa (by decide) (by decide) (star_cons h1), fun xx bb σ H lab ρ k Ψ Q hs En hq hx hp => ?_⟩
    refine v1 xx true σ H lab ρ _ Ψ _ hs En (fun w H1 d ρ1 s1 E1 r1 _ hp1 => ?_) hx hp
    obtain ⟨d', hd, hp1⟩ := den_ofK hs hp1
    obtain ⟨b, hb, rfl⟩ := Option.map_eq_some_iff.mp hd
    have hlen : vs.length ≤ sizeLine := by
      rw [k3]
      have := of_decide_eq_true hc2
      rw [sizeLine_eq, List.length_cons, List.length_cons]
      omega
    refine ⟨hlen, fun q hq0 => ?_⟩
    have n : Nw H1 (upd H1 q (.tup vs)) := Nw.new hq0
    have r2 : RepT X.K (upd H1 q (.tup vs)) (FH (upd H1 q (.tup vs)) lab) d w := r1.top.nw E1.lok hq0
    obtain ⟨tt, t1, t2⟩ := ty_exc F r2 hb
    refine ⟨w, q, vs, tt, us, b, rfl, upd_same, k2, t1, ?_, hq _ _ _ ρ1 (s1.trans (n.stp E1.lok)) (E1.nw n) (.inl rep_bl) (fun _ => rep_bl) hp1⟩
    rcases t2 with ⟨_, rfl, rfl⟩ | ⟨c', C', rfl, e2, rfl⟩
    · exact k5 g3
    · exact k6 c' C' e2 g3
  · cases hc
/-- {k: v} -/
theorem se_dk1 {ke y : E} {e f : Expr} {pos : Pos} (hk : SE X CT G e ke) (hv : SE X CT G f y) : SE X CT G (.Dict [some e] [f] pos) (.dk1 ke y) := by
  intro W tk
  obtain ⟨te, p1, v1⟩ := hk W tk
  obtain ⟨tf, p2, v2⟩ := hv W tk
  refine ⟨_, pe_disp (pps_cons p1 p2 pps_nil) rfl rfl (fun z => nomatch z) (by show 1 ≤ 15; decide), fun xx bb σ H lab ρ k Ψ Q hs En hq hx hp => ?_⟩
  have s1 : ∀ {lab H1 H2}, Stp ke.tch lab H1 H2 → Stp (KS.E.dk1 ke y).tch lab H1 H2 := fun s => s.imp fun i h => or_l h
  have s2 : ∀ {lab H1 H2}, Stp y.tch lab H1 H2 → Stp (KS.E.dk1 ke y).tch lab H1 H2 := fun s => s.imp fun i h => or_r h
  intro p hp0
  have lp := lab_new En.lok hp0
  refine v1 xx false σ _ (KS.hide lab p) ρ _ Ψ _ hs (En.hide hp0 notTup_dK) (fun u H1 dk ρ1 st1 E1 r1 r1' hp1 => ?_) (fun xt c pl cls dx H' s xo => hx xt c pl cls dx H' ((s1 s).unhide0 En.lok hp0) xo.any) hp
  refine v2 xx false σ H1 (KS.hide lab p) ρ1 _ Ψ _ hs E1 (fun z H2 dv ρ2 st2 E2 r2 r2' hp2 => ?_) (fun xt c pl cls dx H' s xo => hx xt c pl cls dx H' (((s1 st1).trans (s2 s)).unhide0 En.lok hp0) xo.any) hp1
  obtain ⟨d, hd, hp2⟩ := den_ofK hs hp2
  obtain ⟨ky, ek, rfl⟩ := Option.map_eq_some_iff.mp (show (keyOf dk).map (fun k => D.dic [(k, dv)]) = some d from hd)
  have st := (s1 st1).trans (s2 st2)
  obtain ⟨rfl, hky⟩ := key_rep (r1' rfl) ek
  refine ⟨by rw [st.far p hide_same]; exact upd_same, [(kyK ky, z)], rfl, by show 1 ≤ 15; decide, ?_⟩
  have rd2 : RdLe (FH H2 (KS.hide lab p)) (FH (upd H2 p (.dK (mergeK [] [(kyK ky, z)]))) lab) := rd_of fun a e n => by
    have z : a ≠ p := fun z => by rw [z, hide_same] at e; cases e
    rw [hide_ne z] at e
    exact ⟨e, upd_ne z⟩
  have r6 : Rep X.K (FH (upd H2 p (.dK (mergeK [] [(kyK ky, z)]))) lab) (.dic [(ky, dv)]) (.ref p) := by
    rw [Rep]
    refine ⟨p, _, rfl, .inl (by rw [FH_of lp]; exact upd_same), ?_⟩
    exact RepKV.cons hky (Rep.mono rd2 _ _ (r2' rfl)) RepKV.nil
  exact hq _ _ _ ρ2 (st.unhide En.lok hp0) (E2.unhide lp) (.inl r6) (fun _ => r6) hp2
end
end KS

set_option Elab.async false
set_option linter.all false
set_option maxRecDepth 100000
set_option maxHeartbeats 2000000
namespace KS
open PySem L2
section
variable {X : Cx} {T : Tb} {CT : Ct} {G : Gm} {N : List Str} {sc : Scope}
theorem se_dic0 {pos : Pos} : SE X CT G (.Dict [] [] pos) (.dic [] .nil) := by
  intro W tk
  refine ⟨_, pe_dnewK, fun xx b σ H lab ρ k Ψ Q hs En hq hx hp => ?_⟩
  intro p hp'
  have n := Nw.new (o := .dK []) hp'
  have r2 := rep_dic_new (K := X.K) (ds := []) En.lok hp' RepKV.nil
  exact hq _ _ _ ρ (n.stp En.lok) (En.nw n) (.inl r2) (fun _ => r2) hp
def plainTr : Expr → Bool
  | .UnaryOp .Not _ _ => false
  | .BoolOp _ _ _ => false
  | .IfExp _ _ _ _ => false
  | .Compare _ _ _ _ => false
  | _ => true
theorem tr_of {e : Expr} (h : plainTr e = true) : boolB e = false ∧ ∀ (env : PySem.Env) whole, isTrue e env whole = (do let v ← whole; standAt e.pos; holding [v] (truthy v)) := by
  cases e with
  | UnaryOp op x p => cases op <;> first | (cases h; done) | exact ⟨rfl, fun _ _ => rfl⟩
  | BoolOp _ _ _ => cases h
  | IfExp _ _ _ _ => cases h
  | Compare _ _ _ _ => cases h
  | _ => exact ⟨rfl, fun _ _ => rfl⟩
theorem both {e : Expr} {m : E} (h : plainTr e = true) (s : SE X CT G e m) : SE X CT G e m ∧ ST X CT G e m := ⟨s, st_of s (tr_of h).1 fun w => (tr_of h).2 _ w⟩
end
theorem dec {p : Prop} [Decidable p] (h : decide p = true) : p := of_decide_eq_true h
theorem notB {a : Bool} (h : (!a) = true) : a = false := by simpa using h
section
variable {T : Tb} {CT : Ct} {G : Gm} {N : List Str}
mutual

theorem sndE : ∀ (m : E) (e : Expr) {X : Cx} {sc : Scope}, Cok X T CT G N sc → chkE T N sc m e = true → SE X CT G e m ∧ ST X CT G e m
  | .var i, e, X, sc, C, h => by
    cases e with
    | Name x p => exact both rfl (se_var C h)
    | _ => cases h
  | .int i, e, X, sc, C, h => by
    cases e with
    | Constant c j p => cases c with
      | int k => obtain rfl := dec (show decide (i = k) = true from h); exact both rfl (se_c pe_int (fun _ => rep_int) fun _ _ _ _ => rfl)
      | _ => cases h
    | _ => cases h
  | .str s, e, X, sc, C, h => by
    cases e with
    | Constant c j p => cases c with
      | str x =>
        obtain ⟨h1, rfl⟩ := isW_lt (show isW s x = true from h)
        exact both rfl (se_c (d := .str s) pe_str (fun _ => by rw [Rep]; exact ⟨h1, rfl⟩) fun _ _ _ _ => rfl)
      | _ => cases h
    | _ => cases h
  | .bl b, e, X, sc, C, h => by
    cases e with
    | Constant c j p => cases c with
      | bool k =>
        have h : (b == k) = true := h
        obtain rfl : b = k := by simpa using h
        exact both rfl (se_c pe_bl (fun _ => rep_bl) fun _ _ _ _ => rfl)
      | _ => cases h
    | _ => cases h
  | .non, e, X, sc, C, h => by
    cases e with
    | Constant c j p => cases c with
      | none => exact both rfl (se_c pe_non (fun _ => rep_non) fun _ _ _ _ => rfl)
      | _ => cases h
    | _ => cases h
  | .glob g, e, X, sc, C, h => by
    cases e with
    | Name x p =>
      obtain ⟨h, h3⟩ := and2 h
      obtain ⟨h1, h2⟩ := and2 h
      exact both rfl (se_glob C (dec h1) h2 h3)
    | _ => cases h
  | .fld _ _, e, X, sc, C, h => by cases h
  | .tup es, e, X, sc, C, h => by
    cases e with
    | Tuple l k p => exact both rfl (se_tup (sndEs es l C h).1)
    | _ => cases h
  | .lst es, e, X, sc, C, h => by
    cases e with
    | List l p => exact both rfl (se_lst (sndEs es l C h).1)
    | _ => cases h
  | .dic ks es, e, X, sc, C, h => by
    cases e with
    | Dict keys vals pos =>
      obtain ⟨h, h4⟩ := and2 h
      obtain ⟨h, h3⟩ := and2 h
      obtain ⟨h1, h2⟩ := and2 h
      cases keys with
      | nil =>
        have l := (chkKeys_len h1).1
        cases ks with
        | nil =>
          have v0 : vals = [] := List.length_eq_zero_iff.mp (dec h3).symm
          subst v0
          cases es with
          | nil => exact both rfl se_dic0
          | cons _ _ => cases h2
        | cons _ _ => cases l
      | cons k keys =>
        refine both rfl (se_dic h1 (dec h3) (Nat.succ_le_succ (Nat.zero_le _)) (dec h4) ((sndEs es vals C h2).2.2 _ _ pos h1 (dec h3)))
    | _ => cases h
  | .bin o a c, e, X, sc, C, h => by
    cases e with
    | BinOp x op y pos =>
      obtain ⟨h, h3⟩ := and2 h
      obtain ⟨h1, h2⟩ := and2 h
      exact both rfl (se_bin C (dec h1) (sndE a x C h2).1 (sndE c y C h3).1)
    | Compare x ops ys pos =>
      cases ops with
      | nil => cases h
      | cons op ops =>
        cases ops with
        | cons _ _ => cases h
        | nil =>
          cases ys with
          | nil => cases h
          | cons y ys =>
            cases ys with
            | cons _ _ => cases h
            | nil =>
              obtain ⟨h, h4⟩ := and2 h
              obtain ⟨h, h3⟩ := and2 h
              obtain ⟨h1, h2⟩ := and2 h
              exact ⟨se_cmp C (dec h1) (notB h2) (sndE a x C h3).1 (sndE c y C h4).1, st_cmp C (dec h1) (notB h2) (sndE a x C h3).1 (sndE c y C h4).1⟩
    | _ => cases h
  | .not_ a, e, X, sc, C, h => by
    cases e with
    | UnaryOp op x pos => cases op with
      | Not => exact ⟨se_not (sndE a x C h).1, st_not (sndE a x C h).2⟩
      | _ => cases h
    | _ => cases h
  | .neg a, e, X, sc, C, h => by
    cases e with
    | UnaryOp op x pos => cases op with
      | USub => exact both rfl (se_neg (sndE a x C h).1)
      | _ => cases h
    | _ => cases h
  | .and_ a c, e, X, sc, C, h => by
    cases e with
    | BoolOp op vs pos => cases op with
      | And => cases vs with
        | nil => cases h
        | cons x vs => cases vs with
          | nil => cases h
          | cons y vs => cases vs with
            | nil =>
              obtain ⟨h1, h2⟩ := and2 h
              exact ⟨se_and2 (sndE a x C h1).1 (sndE c y C h2).1, st_and2 (sndE a x C h1).2 (sndE c y C h2).2⟩
            | cons z r =>
              obtain ⟨h1, h2⟩ := and2 h
              exact ⟨se_and3 (sndE a x C h1).1 (sndE c _ C h2).1, st_and3 (sndE a x C h1).2 (sndE c _ C h2).2⟩
      | _ => cases h
    | _ => cases h
  | .or_ a c, e, X, sc, C, h => by
    cases e with
    | BoolOp op vs pos => cases op with
      | Or => cases vs with
        | nil => cases h
        | cons x vs => cases vs with
          | nil => cases h
          | cons y vs => cases vs with
            | nil =>
              obtain ⟨h1, h2⟩ := and2 h
              exact ⟨se_or2 (sndE a x C h1).1 (sndE c y C h2).1, st_or2 (sndE a x C h1).2 (sndE c y C h2).2⟩
            | cons z r =>
              obtain ⟨h1, h2⟩ := and2 h
              exact ⟨se_or3 (sndE a x C h1).1 (sndE c _ C h2).1, st_or3 (sndE a x C h1).2 (sndE c _ C h2).2⟩
      | _ => cases h
    | _ => cases h
  | .ife c a f, e, X, sc, C, h => by
    cases e with
    | IfExp t x y pos =>
      obtain ⟨h, h3⟩ := and2 h
      obtain ⟨h1, h2⟩ := and2 h
      exact ⟨se_ife (sndE c t C h1).2 (sndE a x C h2).1 (sndE f y C h3).1, st_ife (sndE c t C h1).2 (sndE a x C h2).2 (sndE f y C h3).2⟩
    | _ => cases h
  | .ix a i, e, X, sc, C, h => by
    cases e with
    | Subscript x y pos =>
      obtain ⟨h, h3⟩ := and2 h
      obtain ⟨h1, h2⟩ := and2 h
      exact both rfl (se_ix (notB h1) (sndE a x C h2).1 (sndE i y C h3).1)
    | _ => cases h
  | .dx a i, e, X, sc, C, h => by
    cases e with
    | Subscript x y pos =>
      obtain ⟨h, h3⟩ := and2 h
      obtain ⟨h1, h2⟩ := and2 h
      exact both rfl (se_dx C (notB h1) (sndE a x C h2).1 (sndE i y C h3).1)
    | _ => cases h
  | .slc a lo hi, e, X, sc, C, h => by
    cases e with
    | Subscript x s pos => cases s with
      | Slice l u st p2 => cases st with
        | none =>
          obtain ⟨h, h3⟩ := and2 h
          obtain ⟨h1, h2⟩ := and2 h
          have so : ∀ (m : E) (o : Option Expr), (∀ e, chkE T N sc m e = true → SE X CT G e m) → (match o with
            | none => noneE m
            | some x => !noneE m && chkE T N sc m x) = true → SO X CT G o m := fun m o hm h => by
            cases o with
            | none =>
              have h : noneE m = true := h
              cases m with
              | non => exact so_none
              | _ => cases h
            | some x =>
              obtain ⟨g1, g2⟩ := and2 (show (!noneE m && chkE T N sc m x) = true from h)
              exact so_some (hm x g2) fun z => by rw [z] at g1; cases g1
          exact both rfl (se_slc (sndE a x C h1).1 (so lo l (fun e h => (sndE lo e C h).1) h2) (so hi u (fun e h => (sndE hi e C h).1) h3))
        | some _ => cases h
      | _ => cases h
    | _ => cases h
  | .get d k y, e, X, sc, C, h => by
    cases e with
    | Call f as kws cpos => cases f with
      | Attribute o m apos =>
        cases as with
        | nil => cases h
        | cons e as => cases as with
          | nil => cases h
          | cons f as => cases as with
            | cons _ _ => cases h
            | nil => cases kws with
              | cons _ _ => cases h
              | nil =>
                obtain ⟨h, h8⟩ := and2 h
                obtain ⟨h, h7⟩ := and2 h
                obtain ⟨h, h6⟩ := and2 h
                obtain ⟨h, h5⟩ := and2 h
                obtain ⟨h, h4⟩ := and2 h
                obtain ⟨h, h3⟩ := and2 h
                obtain ⟨h1, h2⟩ := and2 h
                obtain rfl := dec h1
                exact both rfl (se_get C h2 (notB h3) (notB h4) (notB h5) (sndE d o C h6).1 (sndE k e C h7).1 (sndE y f C h8).1)
      | _ => cases h
    | _ => cases h
  | .setd p k y, e, X, sc, C, h => by
    cases e with
    | Call f as kws cpos => cases f with
      | Attribute o m apos =>
        cases as with
        | nil => cases h
        | cons e as => cases as with
          | nil => cases h
          | cons f as => cases as with
            | cons _ _ => cases h
            | nil => cases kws with
              | cons _ _ => cases h
              | nil =>
                obtain ⟨h, h7⟩ := and2 h
                obtain ⟨h, h6⟩ := and2 h
                obtain ⟨h, h5⟩ := and2 h
                obtain ⟨h, h4⟩ := and2 h
                obtain ⟨h, h3⟩ := and2 h
                obtain ⟨h1, h2⟩ := and2 h
                obtain rfl := dec h1
                exact both rfl (se_setd C h2 (notB h3) (notB h4) h5 (sndE k e C h6).1 (sndE y f C h7).1)
      | _ => cases h
    | _ => cases h
  | .pop p, e, X, sc, C, h => by
    cases e with
    | Call f as kws cpos => cases f with
      | Attribute o m apos =>
        cases as with
        | cons _ _ => cases h
        | nil => cases kws with
          | cons _ _ => cases h
          | nil =>
            obtain ⟨h, h3⟩ := and2 h
            obtain ⟨h1, h2⟩ := and2 h
            obtain rfl := dec h1
            exact both rfl (se_pop C h2 h3)
      | _ => cases h
    | _ => cases h
  | .bif b es, e, X, sc, C, h => by
    by_cases hl : b = .lrange
    · subst hl
      cases es with
      | nil => cases h
      | cons a r => cases r with
        | cons _ _ => cases h
        | nil => cases e with
          | Call f as kws pos => cases f with
            | Name x p => cases as with
              | nil => cases h
              | cons c as => cases c with
                | Call f2 as2 kws2 q => cases f2 with
                  | Name y p2 => cases as2 with
                    | nil => cases h
                    | cons e as2 => cases as2 with
                      | cons _ _ => cases h
                      | nil => cases kws2 with
                        | cons _ _ => cases h
                        | nil => cases as with
                          | cons _ _ => cases h
                          | nil => cases kws with
                            | cons _ _ => cases h
                            | nil =>
                              obtain ⟨h, h6⟩ := and2 h
                              obtain ⟨h, h5⟩ := and2 h
                              obtain ⟨h, h4⟩ := and2 h
                              obtain ⟨h, h3⟩ := and2 h
                              obtain ⟨h1, h2⟩ := and2 h
                              exact both rfl (se_lrange C (dec h1) (dec h2) h3 h4 (notB h5) (sndE a e C h6).1)
                  | _ => cases h
                | _ => cases h
            | _ => cases h
          | _ => cases h
    · by_cases hz : b = .lzip
      · subst hz
        cases es with
        | nil => cases h
        | cons a r => cases r with
          | nil => cases h
          | cons c r => cases r with
            | cons _ _ => cases h
            | nil => cases e with
              | Call f as kws pos => cases f with
                | Name x p => cases as with
                  | nil => cases h
                  | cons cc as => cases cc with
                    | Call f2 as2 kws2 q => cases f2 with
                      | Name y p2 => cases as2 with
                        | nil => cases h
                        | cons e as2 => cases as2 with
                          | nil => cases h
                          | cons e2 as2 => cases as2 with
                            | cons _ _ => cases h
                            | nil => cases kws2 with
                              | cons _ _ => cases h
                              | nil => cases as with
                                | cons _ _ => cases h
                                | nil => cases kws with
                                  | cons _ _ => cases h
                                  | nil =>
                                    obtain ⟨h, h8⟩ := and2 h
                                    obtain ⟨h, h7⟩ := and2 h
                                    obtain ⟨h, h6⟩ := and2 h
                                    obtain ⟨h, h5⟩ := and2 h
                                    obtain ⟨h, h4⟩ := and2 h
                                    obtain ⟨h, h3⟩ := and2 h
                                    obtain ⟨h1, h2⟩ := and2 h
                                    exact both rfl (se_lzip C (dec h1) (dec h2) h3 h4 (notB h5) (notB h6) (seb_cons (notB h5) (sndE a e C h7).1 (seb_cons (notB h6) (sndE c e2 C h8).1 seb_nil)))
                      | _ => cases h
                    | _ => cases h
                | _ => cases h
              | _ => cases h
      · have h' : (match (generalizing := false) e with
          | .Call (.Name x _) (e :: es') [] _ => decide (bifNm b = x) && glB sc x && chkEs T N sc es (e :: es')
          | _ => false) = true := by
          cases b <;> first | exact h | exact (hl rfl).elim | exact (hz rfl).elim
        clear h
        cases e with
        | Call f as kws pos => cases f with
          | Name x p => cases as with
            | nil => cases h'
            | cons e as => cases kws with
              | cons _ _ => cases h'
              | nil =>
                obtain ⟨h, h3⟩ := and2 h'
                obtain ⟨h1, h2⟩ := and2 h
                cases es with
                | nil => cases h3
                | cons a r =>
                  have st := chkEs_star h3
                  rw [List.all_cons] at st
                  obtain ⟨s1, s2⟩ := and2 st
                  exact both rfl (se_bif C hl hz (dec h1) h2 (notB s1) s2 (sndEs (.cons a r) (e :: as) C h3).2.1)
          | _ => cases h'
        | _ => cases h'
  | .isi a t, e, X, sc, C, h => by
    by_cases ht : ∃ cs, t = .exc cs
    · obtain ⟨cs, rfl⟩ := ht
      cases e with
      | Call f as kws pos => cases f with
        | Name x p => cases as with
          | nil => cases h
          | cons e as => cases as with
            | nil => cases h
            | cons y as => cases as with
              | cons _ _ => cases h
              | nil => cases kws with
                | cons _ _ => cases h
                | nil =>
                  obtain ⟨h, h5⟩ := and2 h
                  obtain ⟨h, h4⟩ := and2 h
                  obtain ⟨h, h3⟩ := and2 h
                  obtain ⟨h1, h2⟩ := and2 h
                  exact both rfl (se_isx C (dec h1) h2 (notB h3) (sndE a e C h4).1 h5)
        | _ => cases h
      | _ => cases h
    · have h' : (match (generalizing := false) e with
          | .Call (.Name x _) [e, .Name y _] [] _ => decide (x = ("isinstance" : Str)) && decide (tyNm t = some y) && glB sc x && glB sc y && !starB e && chkE T N sc a e
          | _ => false) = true := by
        cases t <;> first | exact h | exact (ht ⟨_, rfl⟩).elim
      clear h
      have h := h'
      cases e with
      | Call f as kws pos => cases f with
        | Name x p => cases as with
          | nil => cases h
          | cons e as => cases as with
            | nil => cases h
            | cons f as => cases f with
              | Name y p2 => cases as with
                | cons _ _ => cases h
                | nil => cases kws with
                  | cons _ _ => cases h
                  | nil =>
                    obtain ⟨h, h6⟩ := and2 h
                    obtain ⟨h, h5⟩ := and2 h
                    obtain ⟨h, h4⟩ := and2 h
                    obtain ⟨h, h3⟩ := and2 h
                    obtain ⟨h1, h2⟩ := and2 h
                    exact both rfl (se_isi C (dec h1) (dec h2) h3 h4 (notB h5) (sndE a e C h6).1)
              | _ => cases h
        | _ => cases h
      | _ => cases h
  | .comp m tg it c, e, X, sc, C, h => by
    cases e with
    | ListComp elt gs scope pos => cases gs with
      | nil => cases h
      | cons g gs => cases gs with
        | cons _ _ => (obtain ⟨_, _, _, _⟩ := g; cases h)
        | nil =>
          obtain ⟨tgt, iter, ifs, k⟩ := g
          obtain ⟨h, h6⟩ := and2 h
          obtain ⟨h, h5⟩ := and2 h
          obtain ⟨h, h4⟩ := and2 h
          obtain ⟨h, h3⟩ := and2 h
          obtain ⟨h, h2⟩ := and2 h
          obtain ⟨h0, h1⟩ := and2 h
          obtain rfl := dec h0
          refine both rfl (SS.se (SF.ss (N := N) (sc := sc) (sf_comp C (sndI it iter C h1) (notB h2) h3 h5 (fun X' C' => (sndE m elt C' h4).1) ?_)))
          cases ifs with
          | nil =>
            left
            have h6 : trueE c = true := h6
            refine ⟨rfl, ?_⟩
            cases c with
            | bl b => cases b with
              | true => rfl
              | false => cases h6
            | _ => cases h6
          | cons f ifs => cases ifs with
            | nil => exact .inr ⟨f, rfl, fun X' C' => (sndE c f C' h6).2⟩
            | cons _ _ => cases h6
    | _ => cases h
  | .call f es, e, X, sc, C, h => by
    cases e with
    | Call g as kws pos => cases g with
      | Name x p => cases as with
        | nil => cases h
        | cons e as => cases kws with
          | cons _ _ => cases h
          | nil =>
            obtain ⟨h, h5⟩ := and2 h
            obtain ⟨h, h4⟩ := and2 h
            obtain ⟨h, h3⟩ := and2 h
            obtain ⟨h1, h2⟩ := and2 h
            cases es with
            | nil => cases h5
            | cons a r =>
              have hh := sndA (.cons a r) (e :: as) C h5
              have st := hh.2
              rw [List.all_cons] at st
              obtain ⟨s1, s2⟩ := and2 st
              exact both rfl (se_call C (dec h1) (dec h2) h3 h4 (notB s1) s2 hh.1)
      | _ => cases h
    | _ => cases h
  | .mv _, e, X, sc, C, h => by cases h
  | .mf, e, X, sc, C, h => by cases h
  | .dk1 ke v, e, X, sc, C, h => by
    cases e with
    | Dict keys vals pos => cases keys with
      | nil => cases h
      | cons k keys => cases k with
        | none => cases h
        | some x => cases keys with
          | cons _ _ => cases h
          | nil => cases vals with
            | nil => cases h
            | cons y vals => cases vals with
              | cons _ _ => cases h
              | nil =>
                obtain ⟨h1, h2⟩ := and2 h
                exact both rfl (se_dk1 (sndE ke x C h1).1 (sndE v y C h2).1)
    | _ => cases h
  | .meth _ _ _ _, e, X, sc, C, h => by cases h
  | .exf _, e, X, sc, C, h => by cases h
  | .rix _ _, e, X, sc, C, h => by cases h
  | .asDat i m, e, X, sc, C, h => by
    cases m with
    | comp m tg it c => cases it with
      | keys k => cases k with
        | var j => cases e with
          | ListComp elt gs scope pos => cases gs with
            | nil => cases h
            | cons g gs => cases gs with
              | cons _ _ => (obtain ⟨_, iter, _, _⟩ := g; cases iter <;> cases h)
              | nil =>
                obtain ⟨tgt, iter, ifs, k⟩ := g
                cases iter with
                | Name x px =>
                  obtain ⟨h, h6⟩ := and2 h
                  obtain ⟨h, h5⟩ := and2 h
                  obtain ⟨h, h4⟩ := and2 h
                  obtain ⟨h, h3⟩ := and2 h
                  obtain ⟨h, h2⟩ := and2 h
                  obtain ⟨h0, h1⟩ := and2 h
                  obtain rfl := dec h0
                  obtain rfl := dec h1
                  refine both rfl (SS.se (SF.ss (N := N) (sc := sc) (sf_dat C h2 h3 h5 (fun X' C' => (sndE m elt C' h4).1) ?_)))
                  cases ifs with
                  | nil =>
                    left
                    have h6 : trueE c = true := h6
                    refine ⟨rfl, ?_⟩
                    cases c with
                    | bl b => cases b with
                      | true => rfl
                      | false => cases h6
                    | _ => cases h6
                  | cons f ifs => cases ifs with
                    | nil => exact .inr ⟨f, rfl, fun X' C' => (sndE c f C' h6).2⟩
                    | cons _ _ => cases h6
                | _ => cases h
          | _ => cases h
        | _ => cases h
      | _ => cases h
    | _ => cases h
theorem sndEs : ∀ (ms : Es) (es : List Expr) {X : Cx} {sc : Scope}, Cok X T CT G N sc → chkEs T N sc ms es = true → SEs X CT G es ms ∧ SEb X CT G es ms ∧ ∀ (ks : List Nat) (keys : List (Option Expr)) (pos : Pos), chkKeys ks keys = true → keys.length = es.length → SEd X CT G pos keys es ks ms
  | .nil, es, X, sc, C, h => by
    cases es with
    | nil =>
      refine ⟨ses_nil, seb_nil, fun ks keys pos hk hl => ?_⟩
      cases keys with
      | nil => cases ks with
        | nil => exact sed_nil
        | cons _ _ => cases hk
      | cons _ _ => cases hl
    | cons _ _ => cases h
  | .cons a r, es, X, sc, C, h => by
    cases es with
    | nil => cases h
    | cons e es =>
      obtain ⟨h, h3⟩ := and2 h
      obtain ⟨h1, h2⟩ := and2 h
      have he := (sndE a e C h2).1
      obtain ⟨r1, r2, r3⟩ := sndEs r es C h3
      refine ⟨ses_cons (notB h1) he r1, seb_cons (notB h1) he r2, fun ks keys pos hk hl => ?_⟩
      cases keys with
      | nil => cases hl
      | cons k keys => cases ks with
        | nil => cases hk
        | cons n ks => cases k with
          | none => cases hk
          | some k => cases k with
            | Constant c j p => cases c with
              | str s =>
                obtain ⟨k1, k2⟩ := and2 (show (isW n s && chkKeys ks keys) = true from hk)
                exact sed_cons k1 he (r3 ks keys pos k2 (Nat.succ.inj hl))
              | _ => cases hk
            | _ => cases hk
theorem sndA : ∀ (ms : Es) (es : List Expr) {X : Cx} {sc : Scope}, Cok X T CT G N sc → chkA T N sc ms es = true → SEa X CT G es ms ∧ es.all (fun e => !starB e) = true
  | .nil, es, X, sc, C, h => by
    cases es with
    | nil => exact ⟨sea_nil, rfl⟩
    | cons _ _ => cases h
  | .cons a r, es, X, sc, C, h => by
    by_cases h1 : ∃ i, a = .mv i
    · obtain ⟨i, rfl⟩ := h1
      cases es with
      | nil => cases h
      | cons e es => cases e with
        | Name x p =>
          obtain ⟨g1, g2⟩ := and2 (show (nameB N sc i x && chkA T N sc r es) = true from h)
          obtain ⟨q1, q2⟩ := sndA r es C g2
          exact ⟨sea_mv C g1 q1, by rw [List.all_cons, q2]; rfl⟩
        | _ => cases h
    · by_cases h2 : a = .mf
      · subst h2
        cases es with
        | nil => cases h
        | cons e es => cases e with
          | Dict keys vals pos => cases keys with
            | nil => cases vals with
              | nil =>
                obtain ⟨q1, q2⟩ := sndA r es C (show chkA T N sc r es = true from h)
                exact ⟨sea_mf q1, by rw [List.all_cons, q2]; rfl⟩
              | cons _ _ => cases h
            | cons _ _ => cases h
          | _ => cases h
      · have h' : (match (generalizing := false) es with
          | e :: es => !starB e && chkE T N sc a e && chkA T N sc r es
          | _ => false) = true := by
          cases a <;> first | exact h | exact (h1 ⟨_, rfl⟩).elim | exact (h2 rfl).elim
        clear h
        cases es with
        | nil => cases h'
        | cons e es =>
          obtain ⟨h, g3⟩ := and2 h'
          obtain ⟨g1, g2⟩ := and2 h
          obtain ⟨q1, q2⟩ := sndA r es C g3
          exact ⟨sea_cons (fun i z => h1 ⟨i, z⟩) h2 (notB g1) (sndE a e C g2).1 q1, by rw [List.all_cons, q2, g1]; rfl⟩
theorem sndI : ∀ (it : KS.It) (e : Expr) {X : Cx} {sc : Scope}, Cok X T CT G N sc → chkI T N sc it e = true → SI X CT G e it
  | .seq m, e, X, sc, C, h => si_seq (sndE m e C h).1
  | .rng1 a, e, X, sc, C, h => by
    cases e with
    | Call f as kws pos => cases f with
      | Name x p => cases as with
        | nil => cases h
        | cons e as => cases as with
          | cons _ _ => cases h
          | nil => cases kws with
            | cons _ _ => cases h
            | nil =>
              obtain ⟨h, h4⟩ := and2 h
              obtain ⟨h, h3⟩ := and2 h
              obtain ⟨h1, h2⟩ := and2 h
              exact si_rng1 C (dec h1) h2 (notB h3) (sndE a e C h4).1
      | _ => cases h
    | _ => cases h
  | .rng2 a b, e, X, sc, C, h => by
    cases e with
    | Call f as kws pos => cases f with
      | Name x p => cases as with
        | nil => cases h
        | cons e as => cases as with
          | nil => cases h
          | cons f as => cases as with
            | cons _ _ => cases h
            | nil => cases kws with
              | cons _ _ => cases h
              | nil =>
                obtain ⟨h, h6⟩ := and2 h
                obtain ⟨h, h5⟩ := and2 h
                obtain ⟨h, h4⟩ := and2 h
                obtain ⟨h, h3⟩ := and2 h
                obtain ⟨h1, h2⟩ := and2 h
                exact si_rng2 C (dec h1) h2 (notB h3) (notB h4) (sndE a e C h5).1 (sndE b f C h6).1
      | _ => cases h
    | _ => cases h
  | .keys _, e, X, sc, C, h => by cases h
end
end
end KS

set_option Elab.async false
set_option linter.all false
set_option maxRecDepth 100000
namespace KS
open PySem L2
section
variable {X : Cx} {T : Tb} {CT : Ct} {G : Gm} {N : List Str} {sc : Scope}
theorem sf_of (C : Cok X T CT G N sc) {e : Expr} {m : E} (hc : compB e = false) (h : ∀ W, Tk CT X W → ∃ t, PE X e t ∧ EvF X CT G W m t) : SF X N sc CT G e m := fun W tk =>
  let ⟨t, h1, h2⟩ := h W tk; ⟨t, h1, pas_of C h1 hc, h2⟩
theorem oc_new {K : PySem.W.Frag} {H : Hp} {lab : Lab} {l : Addr} {o : HO} {sv : SV} (hl : H l = none) (h : match sv with
    | .ol ds => ∃ xs, o = .lst xs ∧ RepAll K (FH H lab) ds xs
    | .od kvs => ∃ vs, o = .dK vs ∧ RepKV K (FH H lab) kvs vs
    | _ => False) : OC K (upd H l o) (FH (upd H l o) (hide lab l)) l sv := by
  have rd : RdLe (FH H lab) (FH (upd H l o) (hide lab l)) := rd_hide (fun a z => upd_ne z) hl
  cases sv with
  | ol ds =>
    obtain ⟨xs, rfl, r⟩ := h
    exact ⟨xs, upd_same, RepAll.mono rd _ _ r⟩
  | od ds =>
    obtain ⟨xs, rfl, r⟩ := h
    exact ⟨xs, upd_same, RepKV.mono rd _ _ r⟩
  | _ => exact h.elim
theorem none_before {t : Nat → Bool} {lab : Lab} {H H1 : Hp} (s : Stp t lab H H1) {p : Addr} (h : H1 p = none) : H p = none := by
  cases z : H p with
  | none => rfl
  | some o => exact (s.mono p (by rw [z]; exact fun z => nomatch z) h).elim
theorem sf_lst (C : Cok X T CT G N sc) {es : List Expr} {ms : Es} {pos : Pos} (h : SEs X CT G es ms) : SF X N sc CT G (.List es pos) (.lst ms) := by
  refine sf_of C rfl fun W tk => ?_
  obtain ⟨t, ht, hv⟩ := h W tk
  refine ⟨tLst t, pe_lst ht, fun xx b σ H lab ρ k Ψ Q hs En hq hx hp => ?_⟩
  refine hv xx σ H lab ρ _ Ψ _ hs En (fun vs H1 ds ρ1 s1 E1 r1 hp1 => ?_) hx hp
  obtain ⟨d, hd, hp1⟩ := den_ofK hs hp1
  unfold shortO at hd
  split at hd
  · rename_i hl
    cases hd
    refine ⟨by rw [← r1.length, ← lim_eq]; exact hl, fun p hp' => ?_⟩
    exact hq p _ (.lst ds) ρ1 (s1.trans ((Nw.new hp').stp E1.lok)) (none_before s1 hp') (E1.hide hp' notTup_lst) (oc_new hp' ⟨vs, rfl, r1⟩) hp1
  · cases hd
theorem sf_dic0 (C : Cok X T CT G N sc) {pos : Pos} : SF X N sc CT G (.Dict [] [] pos) (.dic [] .nil) := by
  refine sf_of C rfl fun W tk => ?_
  refine ⟨_, pe_dnewK, fun xx b σ H lab ρ k Ψ Q hs En hq hx hp => ?_⟩
  intro p hp'
  exact hq p _ (.dic []) ρ ((Nw.new hp').stp En.lok) hp' (En.hide hp' notTup_dK) (oc_new hp' ⟨[], rfl, RepKV.nil⟩) hp
theorem sf_dic (C : Cok X T CT G N sc) {ks : List Nat} {ms : Es} {keys : List (Option Expr)} {es : List Expr} {pos : Pos} (h1 : chkKeys ks keys = true) (h2 : keys.length = es.length) (h3 : 1 ≤ keys.length) (h4 : keys.length ≤ 15) (h : SEd X CT G pos keys es ks ms) :
    SF X N sc CT G (.Dict keys es pos) (.dic ks ms) := by
  refine sf_of C rfl fun W tk => ?_
  obtain ⟨t, p1, v1⟩ := h W tk
  obtain ⟨k1, k2⟩ := chkKeys_len h1
  refine ⟨_, pe_disp p1 k2 h2 (fun z => by rw [z] at h3; exact absurd h3 (by decide)) h4, fun xx bb σ H lab ρ k Ψ Q hs En hq hx hp => ?_⟩
  intro p hp0
  have lp := lab_new En.lok hp0
  refine v1 xx σ _ (KS.hide lab p) ρ _ Ψ _ hs (En.hide hp0 notTup_dK) (fun ps H1 ds ρ1 s1 E1 ⟨vs, r1, l1, e1⟩ hp1 => ?_) (fun xt c pl cls dx H' s xo => hx xt c pl cls dx H' (s.unhide0 En.lok hp0) xo.any) hp
  obtain ⟨d, hd, hp1⟩ := den_ofK hs hp1
  unfold dispD at hd
  split at hd
  · rename_i hl
    cases hd
    refine ⟨by rw [s1.far p hide_same]; exact upd_same, ?_⟩
    obtain ⟨kvs, e2, e3, e4⟩ := zip_kv r1 l1 (chkKeys_w h1)
    refine ⟨kvs, by rw [e1, e2], by rw [e3]; exact hl.2, ?_⟩
    refine hq p _ (.dic (mergeD [] ((ks.map fun s => (Sum.inr s : Ky)).zip ds))) ρ1 (s1.unhide En.lok hp0) hp0 (E1.far hide_same notTup_dK) ⟨_, upd_same, ?_⟩ hp1
    rw [FH_upd_own hide_same]
    exact RepKV.merge e4 RepKV.nil
  · cases hd
theorem sf_lrange (C : Cok X T CT G N sc) {a : E} {e : Expr} {x y : Str} {p p2 q pos : Pos} (hx : x = "list") (hy : y = "range") (g1 : glB sc x = true) (g2 : glB sc y = true) (h1 : starB e = false) (ha : SE X CT G e a) :
    SF X N sc CT G (.Call (.Name x p) [.Call (.Name y p2) [e] [] q] [] pos) (.bif .lrange (.cons a .nil)) := by
  subst hx hy
  refine sf_of C rfl fun W tk => ?_
  obtain ⟨t, p1, v1⟩ := ha W tk
  refine ⟨_, pe_listRg C.calm (C.glo g1) (C.blt (by decide)) (prg_1 (C.glo g2) (C.blt (by decide)) p1 (star_cons h1)), fun xx bb σ H lab ρ k Ψ Q hs En hq hx hp => ?_⟩
  refine v1 xx true σ H lab ρ _ Ψ _ hs En (fun v H1 d ρ1 s1 E1 r1 _ hp1 => ?_) (fun xt c pl cls dx H' s => hx xt c pl cls dx H' (s.imp fun i h => or_l h)) hp
  obtain ⟨_, hp1⟩ := den_unK hs hp1
  obtain ⟨d', hd, hp1⟩ := den_ofK hs hp1
  cases d with
  | int j =>
    have hd : (if j ≤ 16777216 then (rangeD 0 j).map D.lst else none) = some d' := hd
    split at hd
    · rename_i hj
      obtain ⟨ds, e1, rfl⟩ := Option.map_eq_some_iff.mp hd
      unfold rangeD at e1
      split at e1
      · rename_i hr
        cases e1
        refine ⟨j, r1.top.int, ⟨by omega, by omega, by omega, by omega, by omega⟩, fun q hq' => ?_⟩
        have s1' : Stp (KS.E.bif .lrange (.cons a .nil)).tch lab H H1 := s1.imp fun i h => or_l h
        exact hq q _ (.lst _) ρ1 (s1'.trans ((Nw.new hq').stp E1.lok)) (none_before s1 hq') (E1.hide hq' notTup_lst) (oc_new hq' ⟨_, rfl, rep_rg (X := X) (F := FH H1 lab) 0 j⟩) hp1
      · cases e1
    · cases hd
  | _ => cases hd
theorem sf_bif (C : Cok X T CT G N sc) {b : Bif} {a : E} {r : Es} {e : Expr} {es : List Expr} {x : Str} {p pos : Pos} (hb : b = .list ∨ b = .dict) (hx : bifNm b = x) (hg : glB sc x = true) (h1 : starB e = false) (h2 : es.all (fun e => !starB e) = true) (ha : SEb X CT G (e :: es) (.cons a r)) :
    SF X N sc CT G (.Call (.Name x p) (e :: es) [] pos) (.bif b (.cons a r)) := by
  refine sf_of C rfl fun W tk => ?_
  obtain ⟨t, p1, v1⟩ := ha W tk
  refine ⟨_, pe_bif C (by rcases hb with rfl | rfl <;> decide) (by rcases hb with rfl | rfl <;> decide) hx hg h1 h2 p1, fun xx bb σ H lab ρ k Ψ Q hs En hq hx hp => ?_⟩
  refine v1 xx σ H lab ρ _ Ψ _ hs En (fun vs H1 ds ρ1 s1 E1 r1 hp1 => ?_) hx hp
  obtain ⟨d, hd, hp1⟩ := den_ofK hs hp1
  have fin : ∀ (l : Addr) (o : HO), H1 l = none → notTup o → OC X.K (upd H1 l o) (FH (upd H1 l o) (hide lab l)) l (svOf d) → Q (.ref l) (upd H1 l o) := fun l o hl ho oc =>
    hq l _ _ ρ1 (Stp.trans s1 ((Nw.new hl).stp E1.lok)) (none_before s1 hl) (E1.hide hl ho) oc hp1
  rcases hb with rfl | rfl
  · cases r1 with
    | nil => cases hd
    | cons h t =>
      cases t with
      | cons _ _ => rename_i dd _ _ _ _ _ _ _; cases dd <;> cases hd
      | nil =>
        rename_i dd v
        cases dd with
        | tup ds =>
          cases hd
          obtain ⟨p, ws, rfl, e2, e3⟩ := h
          exact .inl ⟨p, ws, rfl, .inr e2, fun r hr => fin r _ hr notTup_lst (oc_new hr ⟨_, rfl, e3⟩)⟩
        | lst ds =>
          cases hd
          obtain ⟨p, ws, rfl, e2, e3⟩ := h
          exact .inl ⟨p, ws, rfl, .inl (SqL.of e2), fun r hr => fin r _ hr notTup_lst (oc_new hr ⟨_, rfl, e3⟩)⟩
        | dic kvs =>
          cases hd
          obtain ⟨p, ws, rfl, e2, e3⟩ := h
          exact .inr ⟨p, ws, rfl, e2, fun r hr => fin r _ hr notTup_lst (oc_new hr ⟨_, rfl, e3.keys⟩)⟩
        | _ => cases hd
  · cases r1 with
    | nil => cases hd
    | cons h t =>
      cases t with
      | cons _ _ => rename_i dd _ _ _ _ _ _ _; cases dd <;> cases hd
      | nil =>
        rename_i dd v
        cases dd with
        | lst ds =>
          obtain ⟨kvs, ek, rfl⟩ := Option.map_eq_some_iff.mp (show (pairsK ds).map (fun kvs => D.dic (mergeD [] kvs)) = some d from hd)
          obtain ⟨p, ws, rfl, e2, e3⟩ := h
          obtain ⟨ps, ks, rfl, hp, hk⟩ := pairs_rep E1.tf e3 ek
          exact .inr ⟨p, ps, ks, rfl, SqL.of e2, hp, fun r hr => fin r _ hr notTup_dK (oc_new hr ⟨_, rfl, hk.merge .nil⟩)⟩
        | dic kvs =>
          cases hd
          obtain ⟨p, ws, rfl, e2, e3⟩ := h
          exact .inl ⟨p, ws, rfl, e2, fun r hr => fin r _ hr notTup_dK (oc_new hr ⟨_, rfl, e3⟩)⟩
        | _ => cases hd
/-- lists put together -/
theorem sf_ladd (C : Cok X T CT G N sc) {op : Operator} {a c : E} {x y : Expr} {pos : Pos} (ho : op = .Add) (ha : SE X CT G x a) (hc : SE X CT G y c) : SF X N sc CT G (.BinOp x op y pos) (.bin .ladd a c) := by
  subst ho
  refine sf_of C rfl fun W tk => ?_
  obtain ⟨ta, h1, h2⟩ := ha W tk
  obtain ⟨tb, h3, h4⟩ := hc W tk
  refine ⟨_, pe_op (op := .Add) (r := rCat) op_cat h1 h3, fun xx b σ H lab ρ k Ψ Q hs En hq hx hp => ?_⟩
  refine ev_two h2 h4 (t := (KS.E.bin .ladd a c).tch) (k := fun da dc ρ2 => ofK (opD .ladd da dc) ρ2 k) (R := fun v u H2 => rCat v u H2 Q) hs En (fun i h => h) (fun v u H2 da dc ρ2 s E2 r1 r2 hp2 => ?_) hx hp
  obtain ⟨d, hd, hp2⟩ := den_ofK hs hp2
  simp only [opD, dop_ladd] at hd
  split at hd
  · split at hd
    · rename_i xs ys hl
      cases hd
      obtain ⟨p, vs, rfl, e2, e3⟩ := r1
      obtain ⟨p', us, rfl, f2, f3⟩ := r2
      exact ⟨p, p', vs, us, rfl, rfl, e2, f2, by rw [← e3.length, ← f3.length, ← lim_eq]; exact hl, fun l hl0 => hq l _ (.lst (xs ++ ys)) ρ2 (Stp.trans s ((Nw.new hl0).stp E2.lok)) (none_before s hl0) (E2.hide hl0 notTup_lst) (oc_new (sv := .ol (xs ++ ys)) hl0 ⟨_, rfl, RepAll.append e3 f3⟩) hp2⟩
    · cases hd
  · cases hd
theorem sndComp (C : Cok X T CT G N sc) {m : E} {tg : List Nat} {it : KS.It} {c : E} {e : Expr} (h : chkE T N sc (.comp m tg it c) e = true) : SF X N sc CT G e (.comp m tg it c) := by
  cases e with
  | ListComp elt gs scope pos => cases gs with
    | nil => cases h
    | cons g gs => cases gs with
      | cons _ _ => (obtain ⟨_, _, _, _⟩ := g; cases h)
      | nil =>
        obtain ⟨tgt, iter, ifs, k⟩ := g
        obtain ⟨h, h6⟩ := and2 h
        obtain ⟨h, h5⟩ := and2 h
        obtain ⟨h, h4⟩ := and2 h
        obtain ⟨h, h3⟩ := and2 h
        obtain ⟨h, h2⟩ := and2 h
        obtain ⟨h0, h1⟩ := and2 h
        obtain rfl := dec h0
        refine sf_comp C (sndI it iter C h1) (notB h2) h3 h5 (fun X' C' => (sndE m elt C' h4).1) ?_
        cases ifs with
        | nil =>
          left
          have h6 : trueE c = true := h6
          refine ⟨rfl, ?_⟩
          cases c with
          | bl b => cases b with
            | true => rfl
            | false => cases h6
          | _ => cases h6
        | cons f ifs => cases ifs with
          | nil => exact .inr ⟨f, rfl, fun X' C' => (sndE c f C' h6).2⟩
          | cons _ _ => cases h6
  | _ => cases h
theorem sndDat (C : Cok X T CT G N sc) {i : Nat} {m : E} {e : Expr} (h : chkE T N sc (.asDat i m) e = true) : SF X N sc CT G e (.asDat i m) := by
  cases m with
  | comp m tg it c => cases it with
    | keys k => cases k with
      | var j => cases e with
        | ListComp elt gs scope pos => cases gs with
          | nil => cases h
          | cons g gs => cases gs with
            | cons _ _ => (obtain ⟨_, iter, _, _⟩ := g; cases iter <;> cases h)
            | nil =>
              obtain ⟨tgt, iter, ifs, k⟩ := g
              cases iter with
              | Name x px =>
                obtain ⟨h, h6⟩ := and2 h
                obtain ⟨h, h5⟩ := and2 h
                obtain ⟨h, h4⟩ := and2 h
                obtain ⟨h, h3⟩ := and2 h
                obtain ⟨h, h2⟩ := and2 h
                obtain ⟨h0, h1⟩ := and2 h
                obtain rfl := dec h0
                obtain rfl := dec h1
                refine sf_dat C h2 h3 h5 (fun X' C' => (sndE m elt C' h4).1) ?_
                cases ifs with
                | nil =>
                  left
                  have h6 : trueE c = true := h6
                  refine ⟨rfl, ?_⟩
                  cases c with
                  | bl b => cases b with
                    | true => rfl
                    | false => cases h6
                  | _ => cases h6
                | cons f ifs => cases ifs with
                  | nil => exact .inr ⟨f, rfl, fun X' C' => (sndE c f C' h6).2⟩
                  | cons _ _ => cases h6
              | _ => cases h
        | _ => cases h
      | _ => cases h
    | _ => cases h
  | _ => cases h
theorem comp_only {m : E} {e : Expr} (hc : ¬ compB e = false) (h : chkE T N sc m e = true) : (∃ m' tg it c, m = .comp m' tg it c) ∨ ∃ i m', m = .asDat i m' := by
  cases m <;> first
    | exact .inl ⟨_, _, _, _, rfl⟩
    | exact .inr ⟨_, _, rfl⟩
    | (exfalso; cases e <;> first | cases h | exact hc rfl)
    | (exfalso; rename_i a t; cases t <;> (cases e <;> first | cases h | exact hc rfl))
    | (exfalso; rename_i b es; cases b <;> first
        | (cases e <;> first | cases h | exact hc rfl)
        | (cases es with
          | nil => cases e <;> first | cases h | exact hc rfl
          | cons a r => cases r with
            | nil => cases e <;> first | cases h | exact hc rfl
            | cons _ _ => cases h)
        | (cases es with
          | nil => cases h
          | cons a r => cases r with
            | nil => cases h
            | cons _ r => cases r with
              | nil => cases e <;> first | cases h | exact hc rfl
              | cons _ _ => cases h))
theorem sndS (C : Cok X T CT G N sc) {m : E} {e : Expr} (h : chkE T N sc m e = true) : SS X N sc CT G e m := by
  by_cases hc : compB e = false
  · exact fun W tk => let ⟨t, h1, h2⟩ := (sndE m e C h).1 W tk; ⟨t, h1, pas_of C h1 hc, h2⟩
  · rcases comp_only hc h with ⟨m', tg, it, c, rfl⟩ | ⟨i, m', rfl⟩
    · exact (sndComp C h).ss
    · exact (sndDat C h).ss
theorem sndF (C : Cok X T CT G N sc) {m : E} {e : Expr} (hf : m.fresh = true) (h : chkE T N sc m e = true) : SF X N sc CT G e m := by
  by_cases hbif : ∃ b es, m = .bif b es
  · obtain ⟨b, es, rfl⟩ := hbif
    by_cases hl : b = .lrange
    · subst hl
      cases es with
      | nil => cases h
      | cons a r => cases r with
        | cons _ _ => cases h
        | nil => cases e with
          | Call f as kws pos => cases f with
            | Name x p => cases as with
              | nil => cases h
              | cons c as => cases c with
                | Call f2 as2 kws2 q => cases f2 with
                  | Name y p2 => cases as2 with
                    | nil => cases h
                    | cons e as2 => cases as2 with
                      | cons _ _ => cases h
                      | nil => cases kws2 with
                        | cons _ _ => cases h
                        | nil => cases as with
                          | cons _ _ => cases h
                          | nil => cases kws with
                            | cons _ _ => cases h
                            | nil =>
                              obtain ⟨h, h6⟩ := and2 h
                              obtain ⟨h, h5⟩ := and2 h
                              obtain ⟨h, h4⟩ := and2 h
                              obtain ⟨h, h3⟩ := and2 h
                              obtain ⟨h1, h2⟩ := and2 h
                              exact sf_lrange C (dec h1) (dec h2) h3 h4 (notB h5) (sndE a e C h6).1
                  | _ => cases h
                | _ => cases h
            | _ => cases h
          | _ => cases h
    · have hb : b = .list ∨ b = .dict := by
        cases b <;> first | exact .inl rfl | exact .inr rfl | exact (hl rfl).elim | (cases hf; done) | (cases h; done)
      have h' : (match (generalizing := false) e with
          | .Call (.Name x _) (e :: es') [] _ => decide (bifNm b = x) && glB sc x && chkEs T N sc es (e :: es')
          | _ => false) = true := by
        rcases hb with rfl | rfl <;> exact h
      clear h
      cases e with
      | Call f as kws pos => cases f with
        | Name x p => cases as with
          | nil => cases h'
          | cons e as => cases kws with
            | cons _ _ => cases h'
            | nil =>
              obtain ⟨h, h3⟩ := and2 h'
              obtain ⟨h1, h2⟩ := and2 h
              cases es with
              | nil => cases h3
              | cons a r =>
                have st := chkEs_star h3
                rw [List.all_cons] at st
                obtain ⟨s1, s2⟩ := and2 st
                exact sf_bif C hb (dec h1) h2 (notB s1) s2 (sndEs (.cons a r) (e :: as) C h3).2.1
        | _ => cases h'
      | _ => cases h'
  · cases m with
    | lst es => cases e with
      | List l p => exact sf_lst C (sndEs es l C h).1
      | _ => cases h
    | dic ks es => cases e with
      | Dict keys vals pos =>
        obtain ⟨h, h4⟩ := and2 h
        obtain ⟨h, h3⟩ := and2 h
        obtain ⟨h1, h2⟩ := and2 h
        cases keys with
        | nil =>
          have l := (chkKeys_len h1).1
          cases ks with
          | nil =>
            have v0 : vals = [] := List.length_eq_zero_iff.mp (dec h3).symm
            subst v0
            cases es with
            | nil => exact sf_dic0 C
            | cons _ _ => cases h2
          | cons _ _ => cases l
        | cons k keys =>
          exact sf_dic C h1 (dec h3) (Nat.succ_le_succ (Nat.zero_le _)) (dec h4) ((sndEs es vals C h2).2.2 _ _ pos h1 (dec h3))
      | _ => cases h
    | comp m tg it c => exact sndComp C h
    | bin o a c =>
      cases o with
      | ladd =>
        cases e with
        | BinOp x op y pos =>
          obtain ⟨h, h3⟩ := and2 h
          obtain ⟨h1, h2⟩ := and2 h
          exact sf_ladd C (Option.some.inj (dec h1)).symm (sndE a x C h2).1 (sndE c y C h3).1
        | Compare x ops ys pos =>
          cases ops with
          | nil => cases h
          | cons op ops => cases ops with
            | cons _ _ => cases h
            | nil => cases ys with
              | nil => cases h
              | cons y ys => cases ys with
                | cons _ _ => cases h
                | nil =>
                  have h : (decide (cmpO .ladd = some op) && !setB y && chkE T N sc a x && chkE T N sc c y) = true := h
                  obtain ⟨h, _⟩ := and2 h
                  obtain ⟨h, _⟩ := and2 h
                  obtain ⟨h1, _⟩ := and2 h
                  cases dec h1
        | _ => cases h
      | _ => cases hf
    | mf => cases h
    | _ => first | (cases hf; done) | exact (hbif ⟨_, _, rfl⟩).elim
end
end KS

set_option Elab.async false
set_option linter.all false
set_option maxRecDepth 100000
namespace KS
open PySem L2
/-! ### statements -/
/-- a relation to some earlier time that a def's steps keep -/
structure Clo (ms : List Bool) (R : Lab → Hp → St → Prop) : Prop where
  step : ∀ {t lab H H' σ}, R lab H σ → Stp t lab H H' → R lab H' σ
  new : ∀ {lab H H' σ p l} {t : Nat → Bool}, R lab H σ → Stp t lab H H' → H p = none → (∀ i j, l = .loc i j → stoB ms i = true) → R (relab lab p (some l)) H' σ
  set : ∀ {lab H σ i o}, R lab H σ → stoB ms i = true → R lab H (σ.set i o)
  drop : ∀ {lab H σ p i j}, R lab H σ → lab p = some (.loc i j) → stoB ms i = true → R (relab lab p none) H σ
theorem Clo.wipe {ms : List Bool} {R : Lab → Hp → St → Prop} (C : Clo ms R) {lab : Lab} {H : Hp} {σ : St} (h : R lab H σ) : ∀ {tg : List Nat}, tg.all (stoB ms) = true → R lab H (wipe σ tg)
  | [], _ => h
  | v :: vs, hh => by
    rw [List.all_cons] at hh
    exact C.set (C.wipe h (and2 hh).2) (and2 hh).1
/-- what stood frozen stands so -/
def Fut (lab : Lab) (H : Hp) (lab' : Lab) (H' : Hp) : Prop := ∀ a, H a ≠ none → H' a ≠ none ∧ (lab a = none → lab' a = none ∧ H' a = H a)
theorem Fut.refl {lab : Lab} {H : Hp} : Fut lab H lab H := fun _ n => ⟨n, fun e => ⟨e, rfl⟩⟩
theorem Fut.rd {lab : Lab} {H : Hp} {lab' : Lab} {H' : Hp} (f : Fut lab H lab' H') : RdLe (FH H lab) (FH H' lab') := rd_of fun a e n => (f a n).2 e
theorem Fut.trans {l0 l1 l2 : Lab} {H0 H1 H2 : Hp} (f : Fut l0 H0 l1 H1) (g : Fut l1 H1 l2 H2) : Fut l0 H0 l2 H2 := fun a n => by
  obtain ⟨f1, f2⟩ := f a n
  obtain ⟨g1, g2⟩ := g a f1
  exact ⟨g1, fun e => let ⟨a1, a2⟩ := f2 e; let ⟨b1, b2⟩ := g2 a1; ⟨b1, b2.trans a2⟩⟩
theorem Fut.clo {ms : List Bool} {lab0 : Lab} {H0 : Hp} : Clo ms fun lab H _ => Fut lab0 H0 lab H where
  step := fun {t lab H H' σ} f s a n => by
    obtain ⟨f1, f2⟩ := f a n
    refine ⟨s.mono a f1, fun e => ?_⟩
    obtain ⟨g1, g2⟩ := f2 e
    exact ⟨g1, (s.fro a g1 f1).trans g2⟩
  new := fun {lab H H' σ p l t} f s h _ a n => by
    obtain ⟨f1, f2⟩ := f a n
    refine ⟨s.mono a f1, fun e => ?_⟩
    obtain ⟨g1, g2⟩ := f2 e
    have z : a ≠ p := fun z => f1 (by rw [z]; exact h)
    exact ⟨by rw [relab_ne z]; exact g1, (s.fro a g1 f1).trans g2⟩
  set := fun f _ => f
  drop := fun {lab H σ p i j} f _ _ a n => by
    obtain ⟨f1, f2⟩ := f a n
    refine ⟨f1, fun e => ?_⟩
    obtain ⟨g1, g2⟩ := f2 e
    refine ⟨?_, g2⟩
    by_cases z : a = p
    · rw [z, relab_same]
    · rw [relab_ne z]; exact g1
theorem Clo.and {ms : List Bool} {R S : Lab → Hp → St → Prop} (C : Clo ms R) (D : Clo ms S) : Clo ms fun lab H σ => R lab H σ ∧ S lab H σ where
  step := fun h s => ⟨C.step h.1 s, D.step h.2 s⟩
  new := fun h s n q => ⟨C.new h.1 s n q, D.new h.2 s n q⟩
  set := fun h n => ⟨C.set h.1 n, D.set h.2 n⟩
  drop := fun h e n => ⟨C.drop h.1 e n, D.drop h.2 e n⟩
section
variable {K : PySem.W.Frag} {σ : St} {H H' : Hp} {lab : Lab} {ρ : Env} {p : Addr} {i : Nat}
/-- a new list or dict becomes the name's own -/
theorem EnvOk.own (E : EnvOk K σ H (KS.hide lab p) ρ) {sv : SV} (oc : OC K H (FH H (KS.hide lab p)) p sv) (hi : i < ρ.length) : EnvOk K (σ.set i (some (.ref p))) H (relab lab p (some (.loc i 0))) (ρ.set i sv) := by
  have fe : FH H (relab lab p (some (.loc i 0))) = FH H (KS.hide lab p) := by
    funext a
    unfold FH
    by_cases z : a = p
    · rw [z, relab_same, hide_same]
    · rw [relab_ne z, hide_ne z]
  refine ⟨fun a l e => ?_, fun a l xs e r => ?_, by rw [List.length_set, List.length_set, E.len], fun j sv' e n => ?_⟩
  · by_cases z : a = p
    · exact E.lok a .far (by rw [z]; exact hide_same)
    · rw [relab_ne z] at e
      exact E.lok a l (by rw [hide_ne z]; exact e)
  · by_cases z : a = p
    · exact E.tf a .far xs (by rw [z]; exact hide_same) r
    · rw [relab_ne z] at e
      exact E.tf a l xs (by rw [hide_ne z]; exact e) r
  · by_cases hj : j = i
    · subst hj
      rw [List.getElem?_set_self hi] at e
      cases e
      refine ⟨_, by rw [List.getElem?_set_self (by rw [← E.len]; exact hi)], ?_⟩
      exact OC.oat (by rw [fe]; exact oc) relab_same
    · rw [List.getElem?_set_ne (Ne.symm hj)] at e
      obtain ⟨v, h1, h2⟩ := E.at_ j sv' e n
      refine ⟨v, by rw [List.getElem?_set_ne (Ne.symm hj)]; exact h1, h2.move (fun a j e => ?_) (by rw [fe]; exact RdLe.refl _)⟩
      have z : a ≠ p := fun z => by rw [z, hide_same] at e; cases e
      rw [hide_ne z] at e
      exact ⟨by rw [relab_ne z]; exact e, rfl⟩
/-- an own thing is let go -/
theorem EnvOk.drop (E : EnvOk K σ H lab ρ) (l : lab p = some (.loc i 0)) : EnvOk K σ H (relab lab p none) (ρ.set i .dead) := by
  have rd : RdLe (FH H lab) (FH H (relab lab p none)) := rd_of fun a e n => by
    have z : a ≠ p := fun z => by rw [z, l] at e; cases e
    exact ⟨by rw [relab_ne z]; exact e, rfl⟩
  refine ⟨fun a l' e => ?_, fun a l' xs e r => ?_, by rw [List.length_set, E.len], fun j sv' e n => ?_⟩
  · by_cases z : a = p
    · rw [z, relab_same] at e; cases e
    · rw [relab_ne z] at e; exact E.lok a l' e
  · by_cases z : a = p
    · rw [z, relab_same] at e; cases e
    · rw [relab_ne z] at e; exact E.tf a l' xs e r
  · by_cases hj : j = i
    · subst hj
      by_cases hi : j < ρ.length
      · rw [List.getElem?_set_self hi] at e
        cases e
        exact (n rfl).elim
      · rw [List.getElem?_eq_none (by rw [List.length_set]; omega)] at e; cases e
    · rw [List.getElem?_set_ne (Ne.symm hj)] at e
      obtain ⟨v, h1, h2⟩ := E.at_ j sv' e n
      refine ⟨v, h1, h2.move (fun a j' e => ⟨?_, rfl⟩) rd⟩
      have z : a ≠ p := fun z => by
        rw [z, l] at e
        cases e
        exact hj rfl
      rw [relab_ne z]; exact e
end
section
variable (X : Cx) (CT : Ct) (G : Gm) (w : Nat) (ms : List Bool)
/-- the ends of a statement -/
structure KD (R : Lab → Hp → St → Prop) (K : Ks) (D : Ends) (Ψ : RF → Prop) : Prop where
  nx : ∀ σ H lab ρ, R lab H σ → EnvOk X.K σ H lab ρ → Ψ ((K.nx ρ).den G) → D.nx σ H
  bk : ∀ σ H lab ρ, R lab H σ → EnvOk X.K σ H lab ρ → Ψ ((K.bk ρ).den G) → D.bk σ H
  ct : ∀ σ H lab ρ, R lab H σ → EnvOk X.K σ H lab ρ → Ψ ((K.ct ρ).den G) → D.ct σ H
  rt : ∀ σ H lab ρ v d, R lab H σ → EnvOk X.K σ H lab ρ → Rep X.K (FH H lab) d v → Ψ ((K.rt d ρ).den G) → D.rt v H
def StG (W : WX) (run : Env → Ks → KS.T) (t : TS) : Prop := ∀ (R : Lab → Hp → St → Prop) (σ : St) (H : Hp) (lab : Lab) (ρ : Env) (K : Ks) (D : Ends) (Ψ : RF → Prop), Clo ms R → ¬ Ψ .stuck → R lab H σ → EnvOk X.K σ H lab ρ → KD X G R K D Ψ →
  (∀ c pl cls dx σ' H' lab', R lab' H' σ' → XOk X.K CT c pl cls dx H' lab' → Ψ (.exc c pl) → W cls dx σ' H') →
  Ψ ((run ρ K).den G) → t D σ H
def SSt (s : S) (st : Stmt) : Prop := ∀ W, Tk CT X W → ∃ t, PS X st t ∧ StG X CT G ms W (exK w s) t
def SSs (s : Ss) (st : List Stmt) : Prop := ∀ W, Tk CT X W → ∃ t, PSs X st t ∧ StG X CT G ms W (exsK w s) t
end
section
variable {X : Cx} {T : Tb} {CT : Ct} {G : Gm} {N : List Str} {sc : Scope} {w : Nat} {ms : List Bool}
theorem ss_nil : SSs X CT G w ms .nil [] := fun W tk => ⟨_, pss_nil, fun R σ H lab ρ K D Ψ C hs r E kd hx hp => kd.nx σ H lab ρ r E hp⟩
theorem ss_cons {s : S} {r : Ss} {st : Stmt} {sts : List Stmt} (h1 : SSt X CT G w ms s st) (h2 : SSs X CT G w ms r sts) : SSs X CT G w ms (.cons s r) (st :: sts) := fun W tk => by
  obtain ⟨t, p1, v1⟩ := h1 W tk
  obtain ⟨u, p2, v2⟩ := h2 W tk
  refine ⟨_, pss_cons p1 p2, fun R σ H lab ρ K D Ψ C hs r0 E kd hx hp => ?_⟩
  exact v1 R σ H lab ρ { K with nx := fun ρ1 => exsK w r ρ1 K } _ Ψ C hs r0 E ⟨fun σ H lab ρ r E hp => v2 R σ H lab ρ K D Ψ C hs r E kd hx hp, kd.bk, kd.ct, kd.rt⟩ hx hp
theorem st_asg {i : Nat} {e : E} {x : Str} {px pos : Pos} {v : Expr} (h1 : slotB N sc i x = true) (h2 : stoB ms i = true) (h3 : compOk sc x px v = true) (h : SS X N sc CT G v e) : SSt X CT G w ms (.asg i e) (.Assign [.Name x px] v pos) := fun W tk => by
  obtain ⟨t, p1, p2, v1⟩ := h W tk
  refine ⟨_, p2 i x px pos h1 h3, fun R σ H lab ρ K D Ψ C hs r0 E kd hx hp => ?_⟩
  refine v1 true false σ H lab ρ _ Ψ _ hs E (fun v H1 d ρ1 s1 E1 _ r hp1 => ?_) (fun _ c pl cls dx H' s xo ps => hx c pl cls dx σ H' lab (C.step r0 s) xo ps) hp
  obtain ⟨ρ2, h5, hp1⟩ := den_optK hs hp1
  unfold storeS at h5
  split at h5
  · rename_i hi
    cases h5
    exact kd.nx _ H1 lab _ (C.set (C.step r0 s1) h2) (E1.set (r rfl) hi) hp1
  · cases h5
theorem st_asgO {i : Nat} {e : E} {x : Str} {px pos : Pos} {v : Expr} (h1 : slotB N sc i x = true) (h2 : stoB ms i = true) (h3 : compOk sc x px v = true) (h : e.fresh = true → SF X N sc CT G v e) : SSt X CT G w ms (.asgO i e) (.Assign [.Name x px] v pos) := fun W tk => by
  by_cases hf : e.fresh = true
  · obtain ⟨t, p1, p2, v1⟩ := h hf W tk
    refine ⟨_, p2 i x px pos h1 h3, fun R σ H lab ρ K D Ψ C hs r0 E kd hx hp => ?_⟩
    have hp : Ψ ((KS.T.un (!e.fresh) fun _ => evK true false e ρ fun d ρ1 => KS.T.opt (storeS ρ1 i (svOf d)) fun ρ2 => K.nx ρ2).den G) := hp
    obtain ⟨_, hp⟩ := den_unK hs hp
    refine v1 true false σ H lab ρ _ Ψ _ hs E (fun p H1 d ρ1 s1 h0 E1 oc hp1 => ?_) (fun _ c pl cls dx H' s xo ps => hx c pl cls dx σ H' lab (C.step r0 s) xo ps) hp
    obtain ⟨ρ2, h5, hp1⟩ := den_optK hs hp1
    unfold storeS at h5
    split at h5
    · rename_i hi
      cases h5
      exact kd.nx _ H1 _ _ (C.set (C.new r0 s1 h0 (fun i' j e => by cases e; exact h2)) h2) (E1.own oc hi) hp1
    · cases h5
  · refine ⟨_, ps_never, fun R σ H lab ρ K D Ψ C hs r0 E kd hx hp => ?_⟩
    have hp : Ψ ((KS.T.un (!e.fresh) fun _ => evK true false e ρ fun d ρ1 => KS.T.opt (storeS ρ1 i (svOf d)) fun ρ2 => K.nx ρ2).den G) := hp
    obtain ⟨h, _⟩ := den_unK hs hp
    cases q : e.fresh with
    | true => exact (hf q).elim
    | false => rw [q] at h; cases h
end
end KS

set_option Elab.async false
set_option linter.all false
set_option maxRecDepth 100000
namespace KS
open PySem L2
section
variable {X : Cx} {T : Tb} {CT : Ct} {G : Gm} {N : List Str} {sc : Scope} {w : Nat} {ms : List Bool}
theorem Clo.unwipe {R : Lab → Hp → St → Prop} (C : Clo ms R) {lab : Lab} {H : Hp} : ∀ {tg : List Nat} {τ : St}, tg.all (stoB ms) = true → R lab H (L2.wipe τ tg) → R lab H τ
  | [], _, _, h => h
  | v :: vs, τ, hh, h => by
    rw [List.all_cons] at hh
    refine C.unwipe (tg := vs) (and2 hh).2 ?_
    have h : R lab H ((L2.wipe τ vs).set v none) := h
    by_cases hv : v < (L2.wipe τ vs).length
    · have := C.set (o := (L2.wipe τ vs)[v]) h (and2 hh).1
      rw [List.set_set, List.set_getElem_self] at this
      exact this
    · rw [List.set_eq_of_length_le (by omega)] at h
      exact h
theorem sw_cellT {env : PySem.Env} {x : Str} {px p : Pos} {es : List Expr} {k : Nat} (hx : env.scope.names.lookup x = some .cell) (v : Expr) :
    swappedStores [.Tuple (.Name x px :: es) k p] v env = pure none := by
  cases v with
  | Tuple vs k2 p2 =>
    have k1 : env.kindOf x = some .cell := hx
    unfold swappedStores
    have hl : ∀ (f : Expr → Option Str), f (.Name x px) = none → ((Expr.Name x px :: es).filterMap f).length ≠ (Expr.Name x px :: es).length := fun f hf => by
      rw [List.filterMap_cons_none hf, List.length_cons]
      have := List.length_filterMap_le f es
      omega
    simp only [pure_bind, Option.getD]
    split
    · rfl
    · split
      · rfl
      · split
        · rfl
        · rename_i h
          exfalso
          apply h
          rw [Bool.or_eq_true]
          left
          rw [bne_iff_ne]
          apply hl
          show (if (env.kindOf x == some NameKind.local && _) = true then some x else none) = none
          rw [k1]
          rfl
  | _ => rfl
theorem st_asgT (C : Cok X T CT G N sc) {tg : List Nat} {e : E} {es : List Expr} {k : Nat} {p pos : Pos} {v : Expr} (h1 : chkTg N sc tg (.Tuple es k p) = true) (h2 : tg.all (stoB ms) = true) (h3 : tupB v = false ∨ cellB sc es = true) (h4 : compB v = false) (h : SE X CT G v e) : SSt X CT G w ms (.asgT tg e) (.Assign [.Tuple es k p] v pos) := fun W tk => by
  obtain ⟨t, p1, v1⟩ := h W tk
  obtain ⟨g, p2, v2⟩ := pg_of C h1
  refine ⟨_, ps_asg p1 p2 (show swapsWith v (some (Expr.Tuple es k p)) pos.line X.env = pure false from sw_not h4) (by
    rcases h3 with h3 | h3
    · cases v <;> first | rfl | cases h3
    · unfold cellB at h3
      split at h3
      · rename_i x px es'
        split at h3
        · rename_i e; exact sw_cellT ((C.scr x _ e).1 (by decide)) v
        · cases h3
      · cases h3) rfl, fun R σ H lab ρ K D Ψ cl hs r0 E kd hx hp => ?_⟩
  refine v1 true false σ H lab ρ _ Ψ _ hs E (fun v H1 d ρ1 s1 E1 _ r hp1 => ?_) (fun _ c pl cls dx H' s xo ps => hx c pl cls dx σ H' lab (cl.step r0 s) xo ps) hp
  obtain ⟨ρ2, h5, hp1⟩ := den_optK hs hp1
  have h5 : bindT tg d ρ1 = some ρ2 := by
    unfold storeT at h5
    split at h5
    · exact h5
    · cases h5
  refine v2 v d σ H1 lab ρ1 ρ2 _ E1 (r rfl) h5 fun σ' E' hw => kd.nx _ H1 lab _ (cl.unwipe h2 ?_) E' hp1
  rw [hw]
  exact cl.wipe (cl.step r0 s1) h2
theorem st_expr {e : E} {v : Expr} {pos : Pos} (h4 : compB v = false) (h : SE X CT G v e) : SSt X CT G w ms (.expr e) (.Expr v pos) := fun W tk => by
  obtain ⟨t, p1, v1⟩ := h W tk
  refine ⟨_, ps_expr p1 (sw_not h4), fun R σ H lab ρ K D Ψ cl hs r0 E kd hx hp => ?_⟩
  exact v1 true false σ H lab ρ _ Ψ _ hs E (fun v H1 d ρ1 s1 E1 _ r hp1 => kd.nx _ H1 lab _ (cl.step r0 s1) E1 hp1) (fun _ c pl cls dx H' s xo ps => hx c pl cls dx σ H' lab (cl.step r0 s) xo ps) hp
theorem st_ret {e : E} {v : Expr} {pos : Pos} (h : SE X CT G v e) : SSt X CT G w ms (.ret e) (.Return (some v) pos) := fun W tk => by
  obtain ⟨t, p1, v1⟩ := h W tk
  refine ⟨_, ps_ret p1, fun R σ H lab ρ K D Ψ cl hs r0 E kd hx hp => ?_⟩
  exact v1 true false σ H lab ρ _ Ψ _ hs E (fun v H1 d ρ1 s1 E1 _ r hp1 => kd.rt _ H1 lab _ v d (cl.step r0 s1) E1 (r rfl) hp1) (fun _ c pl cls dx H' s xo ps => hx c pl cls dx σ H' lab (cl.step r0 s) xo ps) hp
theorem st_retO (C : Cok X T CT G N sc) {i : Nat} {x : Str} {p pos : Pos} (h1 : nameB N sc i x = true) (h2 : stoB ms i = true) : SSt X CT G w ms (.retO i) (.Return (some (.Name x p)) pos) := fun W tk => by
  refine ⟨_, ps_ret (C.name h1), fun R σ H lab ρ K D Ψ cl hs r0 E kd hx hp => ?_⟩
  have hp : Ψ ((KS.T.opt (mvD ρ[i]?) fun d => K.rt d (ρ.set i .dead)).den G) := hp
  obtain ⟨d, hd, hp⟩ := den_optK hs hp
  cases e : ρ[i]? with
  | none => rw [e] at hd; cases hd
  | some sv =>
    rw [e] at hd
    cases sv with
    | ol ds =>
      cases hd
      obtain ⟨q, vs, q1, q2, q3, q4⟩ := E.ol e
      refine ⟨_, q1, kd.rt σ H _ _ _ _ (cl.drop r0 q2 h2) (E.drop q2) ?_ hp⟩
      have rd : RdLe (FH H lab) (FH H (relab lab q none)) := rd_of fun a e n => by
        have z : a ≠ q := fun z => by rw [z, q2] at e; cases e
        exact ⟨by rw [relab_ne z]; exact e, rfl⟩
      rw [Rep]
      exact ⟨q, vs, rfl, by rw [FH_of relab_same]; exact q3, RepAll.mono rd _ _ q4⟩
    | od ds =>
      cases hd
      obtain ⟨q, vs, q1, q2, q3, q4⟩ := E.od e
      refine ⟨_, q1, kd.rt σ H _ _ _ _ (cl.drop r0 q2 h2) (E.drop q2) ?_ hp⟩
      have rd : RdLe (FH H lab) (FH H (relab lab q none)) := rd_of fun a e n => by
        have z : a ≠ q := fun z => by rw [z, q2] at e; cases e
        exact ⟨by rw [relab_ne z]; exact e, rfl⟩
      rw [Rep]
      exact ⟨q, vs, rfl, .inl (by rw [FH_of relab_same]; exact q3), RepKV.mono rd _ _ q4⟩
    | _ => cases hd
theorem st_if {c : E} {a b : Ss} {t : Expr} {x y : List Stmt} {pos : Pos} (h : ST X CT G t c) (ha : SSs X CT G w ms a x) (hb : SSs X CT G w ms b y) : SSt X CT G w ms (.if_ c a b) (.If t x y pos) := fun W tk => by
  obtain ⟨tc, p1, _, v1⟩ := h W tk
  obtain ⟨ta, p2, v2⟩ := ha W tk
  obtain ⟨tb, p3, v3⟩ := hb W tk
  refine ⟨_, ps_if p1 p2 p3, fun R σ H lab ρ K D Ψ cl hs r0 E kd hx hp => ?_⟩
  refine v1 true true σ H lab ρ _ Ψ _ hs E (fun d ρ1 hp1 => let ⟨b, h, _⟩ := den_tri hs hp1; ⟨b, h⟩) (fun cc H1 d ρ1 s1 E1 hd hp1 => ?_) (fun _ c pl cls dx H' s xo ps => hx c pl cls dx σ H' lab (cl.step r0 s) xo ps) hp
  obtain ⟨c2, hc, hp1⟩ := den_tri hs hp1
  rw [hd] at hc
  cases hc
  cases cc with
  | true =>
    show ta D σ H1
    exact v2 R σ H1 lab ρ1 K D Ψ cl hs (cl.step r0 s1) E1 kd hx hp1
  | false =>
    show tb D σ H1
    exact v3 R σ H1 lab ρ1 K D Ψ cl hs (cl.step r0 s1) E1 kd hx hp1
theorem app_tch {H1 H2 : Hp} {lab : Lab} {i : Nat} (t : Nat → Bool) (ht : t i = true) (s : Stp (fun j => j == i) lab H1 H2) : Stp t lab H1 H2 := s.imp fun j h => by
  have : j = i := by simpa using h
  subst this
  exact ht
theorem isOl_some {ρ : Env} {i : Nat} (h : isOlV ρ[i]? = true) : ∃ ds, ρ[i]? = some (.ol ds) := by
  cases e : ρ[i]? with
  | none => rw [e] at h; cases h
  | some sv =>
    rw [e] at h
    cases sv with
    | ol ds => exact ⟨ds, rfl⟩
    | _ => cases h
theorem st_app (C : Cok X T CT G N sc) {p : Pl} {e : E} {o v : Expr} {apos cpos pos : Pos} (h1 : (apos.endLine == cpos.line) = true) (h2 : starB v = false) (h3 : chkPl N sc p o = true) (h : SE X CT G v e) : SSt X CT G w ms (.app p e) (.Expr (.Call (.Attribute o "append" apos) [v] [] cpos) pos) := by
  obtain ⟨i, x, npos, rfl, rfl, hn⟩ := chkPl_name h3
  intro W tk
  obtain ⟨t, p1, v1⟩ := h W tk
  have hst := star_cons (es := []) (env := X.env) h2
  refine ⟨_, ps_expr (pe_bm PySem.F.plainAttrs_list PySem.F.slot_list_append PySem.F.type_list_append mt_append (C.name hn) (pa_cons p1 pa_nil hst) (attr_base rfl) (by rw [hst]; rfl) h1 hst rfl) rfl, fun R σ H lab ρ K D Ψ cl hs r0 E kd hx hp => ?_⟩
  have hp : Ψ ((KS.T.un (!isOlV (getP ρ (i, none))) fun _ => evK true false e ρ fun d ρ1 => KS.T.opt (appS (getP ρ1 (i, none)) d) fun sv => K.nx (setP ρ1 (i, none) sv)).den G) := hp
  obtain ⟨ho, hp⟩ := den_unK hs hp
  obtain ⟨ds, eo⟩ := isOl_some (show isOlV ρ[i]? = true by simpa [getP] using ho)
  obtain ⟨q, vs, q1, q2, q3, q4⟩ := E.ol eo
  refine ⟨_, q1, .inl ⟨rfl, vs, .inl (.inl q3)⟩, ?_⟩
  refine v1 true false σ H lab ρ _ Ψ _ hs E (fun v H1 d ρ1 s1 E1 _ r hp1 => ?_) (fun _ c pl cls dx H' s xo ps => hx c pl cls dx σ H' lab (cl.step r0 s) xo ps) hp
  obtain ⟨sv, hsv, hp1⟩ := den_optK hs hp1
  have hsv : appS ρ1[i]? d = some sv := hsv
  cases e1 : ρ1[i]? with
  | none => rw [e1] at hsv; cases hsv
  | some sv1 =>
    rw [e1] at hsv
    cases sv1 with
    | ol xs =>
      have hsv : (if xs.length < lim then some (SV.ol (xs ++ [d])) else none) = some sv := hsv
      split at hsv
      · rename_i hl
        cases hsv
        obtain ⟨q', ws, w1, w2, w3, w4⟩ := E1.ol e1
        rw [q1] at w1
        cases w1
        refine ⟨q, ws, v, rfl, rfl, w3, by rw [← w4.length, ← lim_eq]; exact hl, ?_⟩
        exact kd.nx σ _ lab _ (cl.step (cl.step r0 s1) (stp_own (t := fun j => j == i) w2 (by simp))) (E1.putL e1 q1 w2 (RepAll.append w4 (.cons (r rfl) .nil))) hp1
      · cases hsv
    | _ => cases hsv
theorem st_extd (C : Cok X T CT G N sc) {p : Pl} {e : E} {o v : Expr} {apos cpos pos : Pos} (h1 : (apos.endLine == cpos.line) = true) (h2 : starB v = false) (h3 : chkPl N sc p o = true) (h : SE X CT G v e) : SSt X CT G w ms (.extd p e) (.Expr (.Call (.Attribute o "extend" apos) [v] [] cpos) pos) := by
  obtain ⟨i, x, npos, rfl, rfl, hn⟩ := chkPl_name h3
  intro W tk
  obtain ⟨t, p1, v1⟩ := h W tk
  have hst := star_cons (es := []) (env := X.env) h2
  refine ⟨_, ps_expr (pe_bm PySem.F.plainAttrs_list PySem.F.slot_list_extend PySem.F.type_list_extend mt_extend (C.name hn) (pa_cons p1 pa_nil hst) (attr_base rfl) (by rw [hst]; rfl) h1 hst rfl) rfl, fun R σ H lab ρ K D Ψ cl hs r0 E kd hx hp => ?_⟩
  have hp : Ψ ((KS.T.un (!isOlV (getP ρ (i, none))) fun _ => evK true false e ρ fun d ρ1 => KS.T.opt (extS (getP ρ1 (i, none)) d) fun sv => K.nx (setP ρ1 (i, none) sv)).den G) := hp
  obtain ⟨ho, hp⟩ := den_unK hs hp
  obtain ⟨ds, eo⟩ := isOl_some (show isOlV ρ[i]? = true by simpa [getP] using ho)
  obtain ⟨q, vs, q1, q2, q3, q4⟩ := E.ol eo
  refine ⟨_, q1, .inl ⟨rfl, vs, .inl (.inl q3)⟩, ?_⟩
  refine v1 true false σ H lab ρ _ Ψ _ hs E (fun v H1 d ρ1 s1 E1 _ r hp1 => ?_) (fun _ c pl cls dx H' s xo ps => hx c pl cls dx σ H' lab (cl.step r0 s) xo ps) hp
  obtain ⟨sv, hsv, hp1⟩ := den_optK hs hp1
  have hsv : extS ρ1[i]? d = some sv := hsv
  cases e1 : ρ1[i]? with
  | none => rw [e1] at hsv; cases hsv
  | some sv1 =>
    rw [e1] at hsv
    cases sv1 with
    | ol xs =>
      cases d with
      | lst ys =>
        have hsv : (if xs.length + ys.length ≤ lim then some (SV.ol (xs ++ ys)) else none) = some sv := hsv
        split at hsv
        · rename_i hl
          cases hsv
          obtain ⟨q', ws, w1, w2, w3, w4⟩ := E1.ol e1
          rw [q1] at w1
          cases w1
          have r := r rfl
          rw [Rep] at r
          obtain ⟨b, zs, rfl, rb, rz⟩ := r
          refine ⟨q, b, ws, zs, rfl, rfl, w3, (FH_eq rb).1, by rw [← w4.length, ← rz.length, ← lim_eq]; exact hl, ?_⟩
          exact kd.nx σ _ lab _ (cl.step (cl.step r0 s1) (stp_own (t := fun j => j == i) w2 (by simp))) (E1.putL e1 q1 w2 (RepAll.append w4 rz)) hp1
        · cases hsv
      | _ => cases hsv
    | _ => cases hsv
theorem st_setL (C : Cok X T CT G N sc) {p : Pl} {k e : E} {o i v : Expr} {tpos pos : Pos} (h1 : sliceB i = false) (h3 : chkPl N sc p o = true) (h4 : compB v = false) (hk : SE X CT G i k) (h : SE X CT G v e) : SSt X CT G w ms (.setL p k e) (.Assign [.Subscript o i tpos] v pos) := by
  obtain ⟨j, x, npos, rfl, rfl, hn⟩ := chkPl_name h3
  intro W tk
  obtain ⟨t, p1, v1⟩ := h W tk
  obtain ⟨u, p2, v2⟩ := hk W tk
  refine ⟨_, ps_asg p1 (pg_sub (C.name hn) p2 set_list (by intro _; cases i <;> first | rfl | cases h1)) (show swapsWith v (some ((Expr.Name x npos).Subscript i tpos)) pos.line X.env = pure false from sw_not h4) (by cases v <;> rfl) rfl, fun R σ H lab ρ K D Ψ cl hs r0 E kd hx hp => ?_⟩
  refine v1 true false σ H lab ρ _ Ψ _ hs E (fun v H1 d ρ1 s1 E1 _ r hp1 => ?_) (fun _ c pl cls dx H' s xo ps => hx c pl cls dx σ H' lab (cl.step r0 s) xo ps) hp
  have hp1 : Ψ ((KS.T.un (!isOlV (getP ρ1 (j, none))) fun _ => evK true false k ρ1 fun dk ρ2 => KS.T.opt (setSL (getP ρ2 (j, none)) dk d) fun sv => K.nx (setP ρ2 (j, none) sv)).den G) := hp1
  obtain ⟨ho, hp1⟩ := den_unK hs hp1
  obtain ⟨ds, eo⟩ := isOl_some (show isOlV ρ1[j]? = true by simpa [getP] using ho)
  obtain ⟨q, vs, q1, q2, q3, q4⟩ := E1.ol eo
  refine ⟨_, q1, ?_⟩
  refine v2 true false σ H1 lab ρ1 _ Ψ _ hs E1 (fun z H2 dk ρ2 s2 E2 r2 _ hp2 => ?_) (fun _ c pl cls dx H' s xo ps => hx c pl cls dx σ H' lab (cl.step (cl.step r0 s1) s) xo ps) hp1
  obtain ⟨sv, hsv, hp2⟩ := den_optK hs hp2
  have hsv : setSL ρ2[j]? dk d = some sv := hsv
  cases e2 : ρ2[j]? with
  | none => rw [e2] at hsv; cases hsv
  | some sv2 =>
    rw [e2] at hsv
    cases sv2 with
    | ol xs =>
      cases dk with
      | int z' =>
        obtain ⟨m, hm, rfl⟩ := Option.map_eq_some_iff.mp (show (ixN xs.length z').map (fun m => SV.ol (xs.set m d)) = some sv from hsv)
        obtain ⟨q', ws, w1, w2, w3, w4⟩ := E2.ol e2
        rw [q1] at w1
        cases w1
        rw [w4.length] at hm
        refine ⟨q, ws, z', m, rfl, r2.top.int, w3, hm, ?_⟩
        exact kd.nx σ _ lab _ (cl.step (cl.step (cl.step r0 s1) s2) (stp_own (t := fun i => i == j) w2 (by simp))) (E2.putL e2 q1 w2 (RepAll.set m w4 (Rep.mono s2.rd _ _ (r rfl)))) hp2
      | _ => cases hsv
    | _ => cases hsv
theorem isOd_some {ρ : Env} {i : Nat} (h : isOdV ρ[i]? = true) : ∃ ds, ρ[i]? = some (.od ds) := by
  cases e : ρ[i]? with
  | none => rw [e] at h; cases h
  | some sv =>
    rw [e] at h
    cases sv with
    | od ds => exact ⟨ds, rfl⟩
    | _ => cases h
theorem st_putD (C : Cok X T CT G N sc) {p : Pl} {k e : E} {o i v : Expr} {tpos pos : Pos} (h3 : chkPl N sc p o = true) (h4 : compB v = false) (hk : SE X CT G i k) (h : SE X CT G v e) : SSt X CT G w ms (.putD p k e) (.Assign [.Subscript o i tpos] v pos) := by
  obtain ⟨j, x, npos, rfl, rfl, hn⟩ := chkPl_name h3
  intro W tk
  obtain ⟨t, p1, v1⟩ := h W tk
  obtain ⟨u, p2, v2⟩ := hk W tk
  refine ⟨_, ps_dput (by have := C.room; omega) (C.name hn) p2 p1 (sw_not h4), fun R σ H lab ρ K D Ψ cl hs r0 E kd hx hp => ?_⟩
  refine v1 true false σ H lab ρ _ Ψ _ hs E (fun v H1 d ρ1 s1 E1 _ r hp1 => ?_) (fun _ c pl cls dx H' s xo ps => hx c pl cls dx σ H' lab (cl.step r0 s) xo ps) hp
  have hp1 : Ψ ((KS.T.un (!isOdV (getP ρ1 (j, none))) fun _ => evK true false k ρ1 fun dk ρ2 => KS.T.opt (setSD (getP ρ2 (j, none)) dk d) fun sv => K.nx (setP ρ2 (j, none) sv)).den G) := hp1
  obtain ⟨ho, hp1⟩ := den_unK hs hp1
  obtain ⟨ds, eo⟩ := isOd_some (show isOdV ρ1[j]? = true by simpa [getP] using ho)
  obtain ⟨q, vs, q1, q2, q3, q4⟩ := E1.od eo
  refine ⟨_, q1, ?_⟩
  refine v2 true false σ H1 lab ρ1 _ Ψ _ hs E1 (fun z H2 dk ρ2 s2 E2 _ r2 hp2 => ?_) (fun _ c pl cls dx H' s xo ps => hx c pl cls dx σ H' lab (cl.step (cl.step r0 s1) s) xo ps) hp1
  obtain ⟨sv, hsv, hp2⟩ := den_optK hs hp2
  have hsv : setSD ρ2[j]? dk d = some sv := hsv
  cases e2 : ρ2[j]? with
  | none => rw [e2] at hsv; cases hsv
  | some sv2 =>
    rw [e2] at hsv
    cases sv2 with
    | od xs =>
      obtain ⟨ky, hky, hsv⟩ := Option.bind_eq_some_iff.mp (show ((keyOf dk).bind fun k => if xs.length < lim then some (SV.od (setK xs k d)) else none) = some sv from hsv)
      split at hsv
      · rename_i hl
        cases hsv
        obtain ⟨q', ws, w1, w2, w3, w4⟩ := E2.od e2
        rw [q1] at w1
        cases w1
        obtain ⟨rfl, hko⟩ := key_rep (r2 rfl) hky
        refine ⟨q, _, rfl, DPut.k w3 (by rw [← w4.length, ← lim_eq]; exact hl), ?_⟩
        exact kd.nx σ _ lab _ (cl.step (cl.step (cl.step r0 s1) s2) (stp_own (t := fun i => i == j) w2 (by simp))) (E2.putD e2 q1 w2 (w4.put hko (Rep.mono s2.rd _ _ (r rfl)))) hp2
      · cases hsv
    | _ => cases hsv
/-! ### loops -/
/-- a statement's run, where P is true -/
def StP (P : Pre) (X : Cx) (CT : Ct) (G : Gm) (ms : List Bool) (W : WX) (run : Env → Ks → KS.T) (t : TS) : Prop := ∀ (R : Lab → Hp → St → Prop) (σ : St) (H : Hp) (lab : Lab) (ρ : Env) (K : Ks) (D : Ends) (Ψ : RF → Prop), Clo ms R → ¬ Ψ .stuck → R lab H σ → EnvOk X.K σ H lab ρ → P σ H lab ρ → KD X G R K D Ψ →
  (∀ c pl cls dx σ' H' lab', R lab' H' σ' → XOk X.K CT c pl cls dx H' lab' → Ψ (.exc c pl) → W cls dx σ' H') →
  Ψ ((run ρ K).den G) → t D σ H
theorem st_forP {P : Pre} (C : Cok X T CT G N sc) (po : PassesOwn (model X.prog X.w) X.A X.env X.xe) {tg : List Nat} {it : KS.It} {body : Ss} {t iter : Expr} {b : List Stmt} {pos : Pos} (h1 : chkTg N sc tg t = true) (h2 : tg.all (stoB ms) = true) (h3 : setB iter = false) (hi : SIP P X CT G iter it) (hb : SSs X CT G w ms body b) :
    ∀ W, Tk CT X W → ∃ t', PS X (.For t iter b [] pos) t' ∧ StP P X CT G ms W (exK w (.for_ tg it body)) t' := fun W tk => by
  obtain ⟨wi, p1, v1⟩ := hi W tk
  obtain ⟨g, p2, v2⟩ := pg_of C h1
  obtain ⟨tb, p3, v3⟩ := hb W tk
  have hset : ∀ x, foldedSetIterable iter X.env x = pure x := fun x => by
    cases iter <;> first | rfl | cases h3
  refine ⟨_, ps_for po C.calm (p1 t) p2 p3 hset, fun R σ H lab ρ K D Ψ cl hs r0 E hP kd hx hp => ?_⟩
  refine v1 true σ H lab ρ _ Ψ _ hs E hP (fun J H1 ds ρ1 s1 E1 ok hp1 => ?_) (fun _ c pl cls dx H' s xo ps => hx c pl cls dx σ H' lab (cl.step r0 s) xo ps) hp
  generalize hf : (fun d ρ2 n b => KS.T.opt (bindT tg d ρ2) fun ρ3 => exsK w body ρ3 ⟨n, K.rt, b, n⟩) = f at hp1
  refine ⟨fun i m σ' H' => m = ds.length - i ∧ i ≤ ds.length ∧ ∃ lab' ρ', (R lab' H' σ' ∧ Fut lab H1 lab' H') ∧ EnvOk X.K σ' H' lab' ρ' ∧ Ψ ((forK f (ds.drop i) ρ' K.nx).den G), ⟨ds.length, rfl, Nat.zero_le _, lab, ρ1, ⟨cl.step r0 s1, Fut.refl⟩, E1, hp1⟩, ?_⟩
  rintro i m σ' H' ⟨rfl, hle, lab', ρ', ⟨r1, fu⟩, E', hp'⟩
  obtain ⟨ok1, ok2⟩ := ok H' _ fu.rd FH_le
  by_cases hlt : i < ds.length
  · right
    have hd : ds[i]? = some ds[i] := by rw [List.getElem?_eq_getElem hlt]
    obtain ⟨g1, g2⟩ := ok1 i _ hd
    refine ⟨g1, fun σ2 H2 => ds.length - (i + 1) = ds.length - (i + 1) ∧ i + 1 ≤ ds.length ∧ ∃ lab' ρ', (R lab' H2 σ2 ∧ Fut lab H1 lab' H2) ∧ EnvOk X.K σ2 H2 lab' ρ' ∧ Ψ ((forK f (ds.drop (i + 1)) ρ' K.nx).den G), fun σ2 H2 z => ⟨_, by omega, z⟩, fun x H'' hy => ?_⟩
    obtain ⟨rfl, rx⟩ := g2 x H'' hy
    have e7 : ds.drop i = ds[i] :: ds.drop (i + 1) := List.drop_eq_getElem_cons hlt
    rw [e7] at hp'
    have hp' : Ψ ((f ds[i] ρ' (fun ρ1 => forK f (ds.drop (i + 1)) ρ1 K.nx) K.nx).den G) := hp'
    rw [← hf] at hp'
    obtain ⟨ρ3, hb3, hp'⟩ := den_optK hs hp'
    have hp' : Ψ ((exsK w body ρ3 ⟨fun ρ1 => forK f (ds.drop (i + 1)) ρ1 K.nx, K.rt, K.nx, fun ρ1 => forK f (ds.drop (i + 1)) ρ1 K.nx⟩).den G) := by rw [← hf]; exact hp'
    refine v2 x ds[i] σ' H'' lab' ρ' ρ3 _ E' rx hb3 fun σ3 E3 hw => ?_
    have r3 : R lab' H'' σ3 ∧ Fut lab H1 lab' H'' := ⟨cl.unwipe h2 (by rw [hw]; exact cl.wipe r1 h2), fu⟩
    exact v3 (fun lab' H' σ' => R lab' H' σ' ∧ Fut lab H1 lab' H') σ3 H'' lab' ρ3 ⟨fun ρ1 => forK f (ds.drop (i + 1)) ρ1 K.nx, K.rt, K.nx, fun ρ1 => forK f (ds.drop (i + 1)) ρ1 K.nx⟩ _ Ψ (cl.and Fut.clo) hs r3 E3
      ⟨fun σ4 H4 lab4 ρ4 r4 E4 hp4 => ⟨rfl, hlt, lab4, ρ4, r4, E4, hp4⟩, fun σ4 H4 lab4 ρ4 r4 E4 hp4 => kd.nx σ4 H4 lab4 ρ4 r4.1 E4 hp4, fun σ4 H4 lab4 ρ4 r4 E4 hp4 => ⟨rfl, hlt, lab4, ρ4, r4, E4, hp4⟩, fun σ4 H4 lab4 ρ4 v d r4 E4 rp hp4 => kd.rt σ4 H4 lab4 ρ4 v d r4.1 E4 rp hp4⟩
      (fun c pl cls dx σ4 H4 lab4 r4 xo ps => hx c pl cls dx σ4 H4 lab4 r4.1 xo ps) hp'
  · left
    have hi' : i = ds.length := by omega
    subst hi'
    rw [List.drop_length] at hp'
    exact ⟨ok2, kd.nx σ' H' lab' ρ' r1 E' hp'⟩
theorem st_for (C : Cok X T CT G N sc) (po : PassesOwn (model X.prog X.w) X.A X.env X.xe) {tg : List Nat} {it : KS.It} {body : Ss} {t iter : Expr} {b : List Stmt} {pos : Pos} (h1 : chkTg N sc tg t = true) (h2 : tg.all (stoB ms) = true) (h3 : setB iter = false) (hi : SI X CT G iter it) (hb : SSs X CT G w ms body b) :
    SSt X CT G w ms (.for_ tg it body) (.For t iter b [] pos) := fun W tk =>
  let ⟨t, p, v⟩ := st_forP (pos := pos) C po h1 h2 h3 hi.p hb W tk
  ⟨t, p, fun R σ H lab ρ K D Ψ cl hs r0 E kd hx hp => v R σ H lab ρ K D Ψ cl hs r0 E trivial kd hx hp⟩
theorem Stp.upds {t : Nat → Bool} {lab : Lab} {H H' : Hp} {a : Addr} {u : HO} (s : Stp t lab H H') : Stp t lab (upd H a u) (upd H' a u) := by
  refine ⟨fun b e n => ?_, fun b i j e n => ?_, fun b e => ?_, fun b n => ?_⟩
  all_goals by_cases z : b = a
  · rw [z, upd_same, upd_same]
  · rw [upd_ne z, upd_ne z]; rw [upd_ne z] at n; exact s.fro b e n
  · rw [z, upd_same, upd_same]
  · rw [upd_ne z, upd_ne z]; exact s.keep b i j e n
  · rw [z, upd_same, upd_same]
  · rw [upd_ne z, upd_ne z]; exact s.far b e
  · rw [z, upd_same]; exact fun z => nomatch z
  · rw [upd_ne z] at n ⊢; exact s.mono b n
theorem Clo.lk {R : Lab → Hp → St → Prop} {a : Addr} {od : Obj} {u : HO} (C : Clo ms R) : Clo ms fun lab H σ => R lab (upd H a u) σ ∧ lab a = none ∧ H a = some (.frz od u) where
  step := fun {t lab H H' σ} h s => ⟨C.step h.1 s.upds, h.2.1, (s.fro a h.2.1 (by rw [h.2.2]; exact fun z => nomatch z)).trans h.2.2⟩
  new := fun {lab H H' σ p l t} h s hp hl => by
    have z : a ≠ p := fun z => by rw [← z, h.2.2] at hp; cases hp
    exact ⟨C.new h.1 s.upds (by rw [upd_ne (Ne.symm z)]; exact hp) hl, by rw [relab_ne z]; exact h.2.1, (s.fro a h.2.1 (by rw [h.2.2]; exact fun z => nomatch z)).trans h.2.2⟩
  set := fun h n => ⟨C.set h.1 n, h.2⟩
  drop := fun {lab H σ p i j} h e n => by
    have z : a ≠ p := fun z => by rw [← z, h.2.1] at e; cases e
    exact ⟨C.drop h.1 e n, by rw [relab_ne z]; exact h.2.1, h.2.2⟩
def seqP (A : Env → Prop) (B : KS.D → Env → Prop) : RF → Prop
  | .ok .non ρ => A ρ
  | .ok (.tup [d]) ρ => B d ρ
  | _ => False
theorem seqP_of {Ψ : RF → Prop} (hs : ¬ Ψ .stuck) {K : Ks} {rf : RF} (h : Ψ (KS.T.den G (match rf with
    | .ok .non ρ2 => K.nx ρ2
    | .ok (.tup [d]) ρ2 => K.rt d ρ2
    | _ => .stuck))) : seqP (fun ρ => Ψ ((K.nx ρ).den G)) (fun d ρ => Ψ ((K.rt d ρ).den G)) rf := by
  split at h
  · exact h
  · exact h
  · exact (hs h).elim
theorem st_forD (C : Cok X T CT G N sc) (po : PassesOwn (model X.prog X.w) X.A X.env X.xe) {tg : List Nat} {i : Nat} {x : Str} {px : Pos} {body : Ss} {t : Expr} {b : List Stmt} {pos : Pos} (h1 : chkTg N sc tg t = true) (h2 : tg.all (stoB ms) = true) (h3 : nameB N sc i x = true) (hb : SSs X CT G w ms body b) :
    SSt X CT G w ms (.forD tg i body) (.For t (.Name x px) b [] pos) := fun W tk => by
  obtain ⟨t', p, v⟩ := st_forP (pos := pos) C po h1 h2 rfl (sip_keys (pos := px) C h3) hb W tk
  refine ⟨_, ps_or p (ps_lock p), fun R σ H lab ρ K D Ψ cl hs r0 E kd hx hp => ?_⟩
  obtain ⟨ds, hd, hp⟩ := den_optK hs hp
  obtain ⟨d, hr, hk⟩ := Option.bind_eq_some_iff.mp hd
  let Ψ1 : RF → Prop := seqP (fun ρ => Ψ ((K.nx ρ).den G)) (fun d ρ => Ψ ((K.rt d ρ).den G))
  let K1 : Ks := ⟨fun ρ4 => .ok .non ρ4, fun d ρ4 => .ok (.tup [d]) ρ4, fun _ => .stuck, fun _ => .stuck⟩
  have hp1 : Ψ1 ((exK w (.for_ tg (.keys (.var i)) body) ρ K1).den G) := by
    have e : (exK w (.for_ tg (.keys (.var i)) body) ρ K1).den G = (forK (fun d ρ2 n b => KS.T.opt (bindT tg d ρ2) fun ρ3 => exsK w body ρ3 ⟨n, fun d ρ4 => .ok (.tup [d]) ρ4, b, n⟩) ds ρ fun ρ4 => .ok .non ρ4).den G := by
      show (ofK (rd false ρ (i, none)) ρ fun d ρ1 => ofK (keysD d) ρ1 fun ds ρ1 => forK (fun d ρ2 n b => KS.T.opt (bindT tg d ρ2) fun ρ3 => exsK w body ρ3 ⟨n, fun d ρ4 => .ok (.tup [d]) ρ4, b, n⟩) ds ρ1 fun ρ4 => .ok .non ρ4).den G = _
      rw [hr]
      show (ofK (keysD d) ρ fun ds ρ1 => forK (fun d ρ2 n b => KS.T.opt (bindT tg d ρ2) fun ρ3 => exsK w body ρ3 ⟨n, fun d ρ4 => .ok (.tup [d]) ρ4, b, n⟩) ds ρ1 fun ρ4 => .ok .non ρ4).den G = _
      rw [hk]
      rfl
    rw [e]
    exact seqP_of hs hp
  have hs1 : ¬ Ψ1 .stuck := fun z => z
  obtain ⟨kvs, rfl⟩ : ∃ kvs, d = KS.D.dic kvs := by
    cases d with
    | dic kvs => exact ⟨kvs, rfl⟩
    | _ => cases hk
  have e1 : ρ[i]? = some (.dat (.dic kvs)) := by
    have hr : (match ρ[i]? with
      | some (.dat d) => some d
      | some (.ol xs) => if false then some (.lst xs) else none
      | some (.od kvs) => if false then some (.dic kvs) else none
      | _ => none) = some (KS.D.dic kvs) := hr
    split at hr
    · rename_i e; rw [e]; cases hr; rfl
    · cases hr
    · cases hr
    · cases hr
  obtain ⟨v0, hv, r⟩ := E.at_ i _ e1 (fun z => nomatch z)
  have r : Rep X.K (FH H lab) (.dic kvs) v0 := r
  rw [Rep] at r
  obtain ⟨a, vs, rfl, ra, rk⟩ := r
  rcases ra with ra | ⟨od, ra⟩
  · right
    obtain ⟨ha, la⟩ := FH_eq ra
    refine ⟨a, .dK vs, ha, trivial, fun od => ?_⟩
    have wr := rd_lock (lab := lab) (od := od) ha
    have un : ∀ {σ' : St} {H' : Hp} {lab' : Lab} {ρ' : Env}, lab' a = none → H' a = some (.frz od (.dK vs)) → EnvOk X.K σ' H' lab' ρ' → EnvOk X.K σ' (upd H' a (.dK vs)) lab' ρ' := fun l h E' => E'.lk l (rd_unlock h)
    refine v (fun lab' H' σ' => R lab' (upd H' a (.dK vs)) σ' ∧ lab' a = none ∧ H' a = some (.frz od (.dK vs))) σ _ lab ρ K1 _ Ψ1 (Clo.lk cl) hs1 ⟨by rw [upd_upd, upd_self ha]; exact r0, la, upd_same⟩ (E.lk la wr) ⟨a, od, kvs, vs, e1, hv, la, upd_same, RepKV.monoW wr _ _ rk⟩ ?_ (fun c pl cls dx σ' H' lab' _ _ z => z.elim) hp1
    exact ⟨fun σ' H' lab' ρ' r' E' z => ⟨r'.2.2, kd.nx σ' _ lab' ρ' r'.1 (un r'.2.1 r'.2.2 E') z⟩, fun _ _ _ _ _ _ z => z.elim, fun _ _ _ _ _ _ z => z.elim, fun σ' H' lab' ρ' v d r' E' rp z => ⟨r'.2.2, kd.rt σ' _ lab' ρ' v d r'.1 (un r'.2.1 r'.2.2 E') (Rep.monoW (rd_unlock r'.2.2) _ _ rp) z⟩⟩
  · left
    obtain ⟨ha, la⟩ := FH_eq ra
    refine v R σ H lab ρ K1 _ Ψ1 cl hs1 r0 E ⟨a, od, kvs, vs, e1, hv, la, ha, rk⟩ ?_ (fun c pl cls dx σ' H' lab' _ _ z => z.elim) hp1
    exact ⟨fun σ' H' lab' ρ' r' E' z => kd.nx σ' _ lab' ρ' r' E' z, fun _ _ _ _ _ _ z => z.elim, fun _ _ _ _ _ _ z => z.elim, fun σ' H' lab' ρ' v d r' E' rp z => kd.rt σ' _ lab' ρ' v d r' E' rp z⟩
theorem st_while (C : Cok X T CT G N sc) (po : PassesOwn (model X.prog X.w) X.A X.env X.xe) {c : E} {body : Ss} {t : Expr} {b : List Stmt} {pos : Pos} (h : ST X CT G t c) (hb : SSs X CT G w ms body b) : SSt X CT G w ms (.while_ c body) (.While t b [] pos) := fun W tk => by
  obtain ⟨tc, p1, _, v1⟩ := h W tk
  obtain ⟨tb, p3, v3⟩ := hb W tk
  refine ⟨_, ps_while po p1 p3, fun R σ H lab ρ K D Ψ cl hs r0 E kd hx hp => ?_⟩
  generalize hcf : (fun ρ1 (k : Bool → Env → KS.T) => evK true true c ρ1 fun d ρ2 => ofK (truth d) ρ2 k) = cf
  generalize hf : (fun ρ1 n b => exsK w body ρ1 ⟨n, K.rt, b, n⟩) = f
  have hp : Ψ ((whileK cf f w ρ K.nx).den G) := by rw [← hcf, ← hf]; exact hp
  refine ⟨fun m σ' H' => ∃ lab' ρ', R lab' H' σ' ∧ EnvOk X.K σ' H' lab' ρ' ∧ Ψ ((whileK cf f m ρ' K.nx).den G), ⟨w, lab, ρ, r0, E, hp⟩, ?_⟩
  rintro m σ' H' ⟨lab', ρ', r1, E', hp'⟩
  cases m with
  | zero => exact (hs hp').elim
  | succ m =>
    have hp' : Ψ ((cf ρ' fun b ρ1 => KS.T.test b fun b => match b with
      | true => f ρ1 (fun ρ2 => whileK cf f m ρ2 K.nx) K.nx
      | false => K.nx ρ1).den G) := hp'
    have hp' : Ψ ((evK true true c ρ' fun d ρ2 => ofK (truth d) ρ2 fun b ρ1 => KS.T.test b fun b => match b with
      | true => f ρ1 (fun ρ2 => whileK cf f m ρ2 K.nx) K.nx
      | false => K.nx ρ1).den G) := by
      have := hp'
      rw [← hcf] at this ⊢
      exact this
    refine v1 true true σ' H' lab' ρ' _ Ψ _ hs E' (fun d ρ1 hp1 => let ⟨b, h, _⟩ := den_ofK hs hp1; ⟨b, h⟩) (fun cc H1 d ρ1 s1 E1 hd hp1 => ?_) (fun _ c pl cls dx H' s xo ps => hx c pl cls dx σ' H' lab' (cl.step r1 s) xo ps) hp'
    obtain ⟨c2, hc, hp1⟩ := den_ofK hs hp1
    rw [hd] at hc
    cases hc
    cases cc with
    | true =>
      refine ⟨fun σ2 H2 => ∃ lab' ρ', R lab' H2 σ2 ∧ EnvOk X.K σ2 H2 lab' ρ' ∧ Ψ ((whileK cf f m ρ' K.nx).den G), fun σ2 H2 z => ⟨m, Nat.lt_succ_self _, z⟩, ?_⟩
      have hp1 : Ψ ((f ρ1 (fun ρ2 => whileK cf f m ρ2 K.nx) K.nx).den G) := hp1
      have hp1 : Ψ ((exsK w body ρ1 ⟨fun ρ2 => whileK cf f m ρ2 K.nx, K.rt, K.nx, fun ρ2 => whileK cf f m ρ2 K.nx⟩).den G) := by rw [← hf] at hp1 ⊢; exact hp1
      exact v3 R σ' H1 lab' ρ1 ⟨fun ρ2 => whileK cf f m ρ2 K.nx, K.rt, K.nx, fun ρ2 => whileK cf f m ρ2 K.nx⟩ _ Ψ cl hs (cl.step r1 s1) E1
        ⟨fun σ4 H4 lab4 ρ4 r4 E4 hp4 => ⟨lab4, ρ4, r4, E4, hp4⟩, fun σ4 H4 lab4 ρ4 r4 E4 hp4 => kd.nx σ4 H4 lab4 ρ4 r4 E4 hp4, fun σ4 H4 lab4 ρ4 r4 E4 hp4 => ⟨lab4, ρ4, r4, E4, hp4⟩, kd.rt⟩ hx hp1
    | false => exact kd.nx σ' H1 lab' ρ1 (cl.step r1 s1) E1 hp1
theorem st_pass {pos : Pos} : SSt X CT G w ms .pass (.Pass pos) := fun W tk => ⟨_, ps_pass, fun R σ H lab ρ K D Ψ cl hs r0 E kd hx hp => kd.nx σ H lab ρ r0 E hp⟩
theorem st_brk {pos : Pos} : SSt X CT G w ms .brk (.Break pos) := fun W tk => ⟨_, ps_break, fun R σ H lab ρ K D Ψ cl hs r0 E kd hx hp => kd.bk σ H lab ρ r0 E hp⟩
theorem st_cont {pos : Pos} : SSt X CT G w ms .cont (.Continue pos) := fun W tk => ⟨_, ps_continue, fun R σ H lab ρ K D Ψ cl hs r0 E kd hx hp => kd.ct σ H lab ρ r0 E hp⟩
end
end KS

set_option Elab.async false
set_option linter.all false
set_option maxRecDepth 100000
/-! SY: errors raised, tried. -/
namespace KS
open PySem L2
section
variable {X : Cx} {T : Tb} {CT : Ct} {G : Gm} {N : List Str} {sc : Scope} {w : Nat} {ms : List Bool}
theorem st_skip {st : Stmt} : SSt X CT G w ms .skip st := fun W tk => ⟨_, ps_never, fun R σ H lab ρ K D Ψ cl hs r0 E kd hx hp => (hs hp).elim⟩
theorem raises_x {K : PySem.W.Frag} {mg : Str → Option Value} {X : Cx} {C : Addr} (h : ExcC X.K C) (g : PySem.W.typeIn X.K (.ref C) = some (.type "type")) : Raises X (.ref C) := raises_own h.hs g
theorem st_raise (C : Cok X T CT G N sc) {c : Nat} {y m : Str} {j : Nat} {p p2 pos pos2 : Pos} (h1 : T.xs = true) (h2 : c < 5 ∧ T.xc c = true) (h3 : c ≠ 3) (h4 : excNm c = y) (h5 : glB sc y = true) (h6 : dbgB y = true) :
    SSt X CT G w ms (.raise_ c .nil) (.Raise (some (.Call (.Name y p) [.Constant (.str m) j p2] [] pos)) none pos2) := fun W tk => by
  have F := C.xs h1
  obtain ⟨D, g1, g2, g3, g4, g5, g6⟩ := F.cl c h2
  rw [h4] at g2
  have fin : ∀ (R : Lab → Hp → L2.St → Prop) (σ : L2.St) (H : Hp) (lab : Lab) (ρ : Env) (K : Ks) (Ψ : RF → Prop), R lab H σ → (∀ c pl cls dx σ' H' lab', R lab' H' σ' → XOk X.K CT c pl cls dx H' lab' → Ψ (.exc c pl) → W cls dx σ' H') → Ψ ((exK w (.raise_ c .nil) ρ K).den G) → W (.ref D) none σ H :=
    fun R σ H lab ρ K Ψ r0 hx hp => hx c [] (.ref D) none σ H lab r0 ⟨D, g1, rfl, trivial⟩ hp
  cases CT with
  | true => exact ⟨_, L2N.ps_raise C.calm tk (L2N.pmk_own PySem.F.excBase_ValueError (g6 h3) g2 g3 (raises_own g4.hs g5) (C.glo h5) (dbg_of h6).1), fun R σ H lab ρ K D Ψ cl hs r0 E kd hx hp => fin R σ H lab ρ K Ψ r0 hx hp⟩
  | false => exact ⟨_, L2.ps_raise C.calm tk (L2.pmk_own PySem.F.excBase_ValueError (g6 h3) g2 g3 (raises_own g4.hs g5) (C.glo h5) (dbg_of h6).1), fun R σ H lab ρ K D Ψ cl hs r0 E kd hx hp => fin R σ H lab ρ K Ψ r0 hx hp⟩
/-- within another wish -/
theorem Cok.wish (C : Cok X T CT G N sc) (pn : List (Addr × Obj)) (xe : Value → Shared → Prop) : Cok (X.tr pn xe) T CT G N sc :=
  { nn := C.nn, nd := C.nd, calm := C.calm, kf := C.kf, room := C.room, scr := C.scr, st := C.st, fn := C.fn, gl := C.gl, bl := C.bl, xs := C.xs, tr := C.tr }
/-- the tree of what is tried -/
def tryB (i : Nat) (e : E) (ρ : Env) : KS.T := evK true false e ρ fun d ρ1 => .opt (storeS ρ1 i (.dat d)) fun ρ2 => .ok .non ρ2
/-- what is asked of the tried statement: all that its value's soundness gives -/
def tTry (X : Cx) (CT : Ct) (G : Gm) (i : Nat) (e : E) (W : WX) : TS := fun D σ H => ∀ t, EvS X CT G W e t → tAsg t (gName i) D σ H
theorem pss_try (C : Cok X T CT G N sc) {i : Nat} {e : E} {x : Str} {px pos : Pos} {v : Expr} (h1 : slotB N sc i x = true) (h3 : compOk sc x px v = true) (h4 : chkE T N sc e v = true) {W : WX} {pn : List (Addr × Obj)} {xe : Value → Shared → Prop} (tk : Tk CT (X.tr pn xe) W) :
    PSs (X.tr pn xe) [.Assign [.Name x px] v pos] (tTry X CT G i e W) := by
  obtain ⟨t, p1, p2, v1⟩ := sndS (C.wish pn xe) h4 W tk
  exact pss_one ⟨fun pins s σ H D I h => (p2 i x px pos h1 h3).run pins s σ H D I (h t v1)⟩
/-- the tried statement's reading: E what an error leaves -/
theorem try_read {i : Nat} {e : E} {W : WX} {σ : L2.St} {H : Hp} {lab : Lab} {ρ : Env} {D : Ends} {R : Lab → Hp → L2.St → Prop} {k : Env → KS.T} {Ψ Ψ' : RF → Prop} (hst : e.still = true) (cl : Clo ms R) (hs : ¬ Ψ' .stuck) (r0 : R lab H σ) (E : EnvOk X.K σ H lab ρ) (h2 : stoB ms i = true)
    (hn : ∀ σ' H' ρ', R lab H' σ' → EnvOk X.K σ' H' lab ρ' → Ψ' (.ok .non ρ') → D.nx σ' H')
    (hx : ∀ c pl cls dx H', R lab H' σ → EnvOk X.K σ H' lab ρ → XOk X.K CT c pl cls dx H' lab → Ψ' (.exc c pl) → W cls dx σ H') (hp : Ψ' ((tryB i e ρ).den G)) : tTry X CT G i e W D σ H := by
  intro t v1
  have still : ∀ {H'}, Stp e.tch lab H H' → Stp (fun _ => false) lab H H' := fun s => s.imp fun j h => by rw [still_tch e hst j] at h; cases h
  refine v1 true false σ H lab ρ _ Ψ' _ hs E (fun v H1 d ρ1 s1 E1 _ r hp1 => ?_) (fun _ c pl cls dx H' s xo ps => hx c pl cls dx H' (cl.step r0 s) (E.step (still s)) xo ps) hp
  obtain ⟨ρ2, h5, hp1⟩ := den_optK hs hp1
  unfold storeS at h5
  split at h5
  · rename_i hi
    cases h5
    exact hn _ H1 _ (cl.set (cl.step r0 s1) h2) (E1.set (r rfl) hi) hp1
  · cases h5
theorem tk_none {X : Cx} {pn : List (Addr × Obj)} {xe : Value → Shared → Prop} : Tk CT (X.tr pn xe) fun _ _ _ _ => False := by
  cases CT <;> (intro u s' h; obtain ⟨a, B, sI, pins, σ, H, cls, d, _, _, _, _, _, _, _, _, w⟩ := h; exact w.elim)
/-- the rest of a tried statement -/
def tryK (i : Nat) (c : Nat) (hd : Hd) (ρ : Env) (K : Ks) : RF → KS.T := fun rf => match rf with
    | .ok _ ρ2 => K.nx ρ2
    | .exc cc pl => KS.T.un (!excSub cc c) fun _ => match hd with
      | .no => .stuck
      | .keep je j => KS.T.un (!(pl.isEmpty && decide (je < ρ.length))) fun _ => .opt (storeS (ρ.set je .dead) j (.dat (.exc cc pl))) fun ρ1 => K.nx ρ1
      | .set j b => .opt (storeS ρ j (.dat (.bl b))) fun ρ1 => K.nx ρ1
      | .raise c2 => .exc c2 []
    | .stuck => .stuck
theorem st_tryNo (C : Cok X T CT G N sc) {i c : Nat} {e : E} {x : Str} {px pos pos2 : Pos} {v : Expr} {h0 : ExceptHandler} (h1 : slotB N sc i x = true) (h2 : stoB ms i = true) (h3 : compOk sc x px v = true) (h4 : chkE T N sc e v = true) :
    SSt X CT G w ms (.tryE i e c .no) (.Try [.Assign [.Name x px] v pos] [h0] [] [] pos2) := fun W tk => by
  have p := pss_try (G := G) C h1 h3 h4 (pos := pos) (W := fun _ _ _ _ => False) (pn := X.pn) (xe := fun _ _ => False) tk_none
  refine ⟨_, ps_try_thru0 p, fun R σ H lab ρ K D Ψ cl hs r0 E kd hx hp => ?_⟩
  obtain ⟨hst, hp⟩ := den_unK hs (show Ψ ((KS.T.un (!e.still) fun _ => .sub (tryB i e ρ) (tryK i c .no ρ K)).den G) from hp)
  have hp : Ψ ((tryK i c .no ρ K ((tryB i e ρ).den G)).den G) := hp
  refine try_read (Ψ' := fun rf => Ψ ((tryK i c .no ρ K rf).den G)) (Ψ := Ψ) (k := K.nx) (by simpa using hst) cl hs r0 E h2 (fun σ' H' ρ' r' E' hp' => kd.nx σ' H' lab ρ' r' E' hp') (fun c' pl cls dx H' r' E' xo hp' => ?_) hp
  obtain ⟨_, hp'⟩ := den_unK hs (show Ψ ((KS.T.un (!excSub c' c) fun _ => KS.T.stuck).den G) from hp')
  exact hs hp'
end
end KS
namespace KS
open PySem L2
section
variable {X : Cx} {T : Tb} {CT : Ct} {G : Gm} {N : List Str} {sc : Scope} {w : Nat} {ms : List Bool}
theorem sw_two {env : PySem.Env} {x y u v : Str} {px py pt pu pv pt2 : Pos} {kt k2 : Nat} (hk : env.scope.kind = .function) (hx : env.scope.names.lookup x = some .local) (hy : env.scope.names.lookup y = some .local) (hl : (px.line == py.line) = true) (hn : x ≠ y) (hd : (u == ("__debug__" : Str)) = false) :
    swappedStores [.Tuple [.Name x px, .Name y py] kt pt] (.Tuple [.Name u pu, .Name v pv] k2 pt2) env = pure (some [x, y]) := by
  have k1 : env.kindOf x = some .local := hx
  have k2 : env.kindOf y = some .local := hy
  have k3 : env.blockKind = .function := by unfold PySem.Env.blockKind; rw [hk]; rfl
  have hl' : py.line = px.line := (by simpa using hl : px.line = py.line).symm
  have hn' : ¬ y = x := fun z => hn z.symm
  have f1 : foldedForSure 8 (.Name u pu) = false := rfl
  unfold swappedStores
  simp [k1, k2, k3, hl', Expr.pos, f1, constantsAlone, List.eraseDups_cons, hn, hn']
  intro z
  rw [z] at hd
  simp at hd
theorem st_swap (C : Cok X T CT G N sc) {i j : Nat} {a b : E} {x y u v : Str} {px py pt pu pv pt2 pos : Pos} {kt k2 : Nat} (h1 : slotB N sc i x = true) (h2 : slotB N sc j y = true) (h3 : stoB ms i = true) (h4 : stoB ms j = true) (ha : SE X CT G (.Name u pu) a) (hb : SE X CT G (.Name v pv) b)
    (h5 : (px.line == py.line) = true) (hud : dbgB u = true) (h6 : i ≠ j) (h7 : sc.names.lookup x = some .local) (h8 : sc.names.lookup y = some .local) :
    SSt X CT G w ms (.swap i j a b) (.Assign [.Tuple [.Name x px, .Name y py] kt pt] (.Tuple [.Name u pu, .Name v pv] k2 pt2) pos) := fun W tk => by
  obtain ⟨ta, p1, v1⟩ := ha W tk
  obtain ⟨tb, p2, v2⟩ := hb W tk
  unfold slotB at h1 h2
  rw [Bool.and_eq_true, Bool.and_eq_true, decide_eq_true_eq] at h1 h2
  have hx := (C.scr x _ h7).1 (by decide)
  have hy := (C.scr y _ h8).1 (by decide)
  have hxy : x ≠ y := fun z => by
    have e := h1.1.1
    rw [z, ← h2.1.1] at e
    exact h6 (nodup_ix C.nd (h1.1.1) (by rw [z]; exact h2.1.1))
  refine ⟨_, ps_par (i := i) (j := j) C.calm (by rw [C.nn]; exact C.nd) (by rw [C.nn]; exact h1.1.1) (by rw [C.nn]; exact h2.1.1) h6 hx hy (pa_cons p1 (pa_cons p2 pa_nil)) (sw_two C.kf hx hy h5 hxy (dbg_of hud).1) rfl, fun R σ H lab ρ K D Ψ cl hs r0 E kd hx hp => ?_⟩
  refine v1 true false σ H lab ρ _ Ψ _ hs E (fun z1 H1 d1 ρ1 s1 E1 _ r1 hp1 => ?_) (fun _ c pl cls dx H' s xo ps => hx c pl cls dx σ H' lab (cl.step r0 s) xo ps) hp
  refine v2 true false σ H1 lab ρ1 _ Ψ _ hs E1 (fun z2 H2 d2 ρ2 s2 E2 _ r2 hp2 => ?_) (fun _ c pl cls dx H' s xo ps => hx c pl cls dx σ H' lab (cl.step (cl.step r0 s1) s) xo ps) hp1
  obtain ⟨ρ3, h9, hp2⟩ := den_optK hs hp2
  unfold swapS at h9
  split at h9
  · rename_i hij
    cases h9
    refine ⟨z1, z2, rfl, kd.nx _ H2 lab _ (cl.set (cl.set (cl.step (cl.step r0 s1) s2) h3) h4) ((E2.set (Rep.mono s2.rd _ _ (r1 rfl)) hij.1).set (r2 rfl) (by rw [List.length_set]; exact hij.2.1)) hp2⟩
  · cases h9
end
end KS

set_option Elab.async false
set_option linter.all false
set_option maxRecDepth 100000
/-! STry: an error is caught and kept under another name. -/
namespace KS
open PySem L2 PySem.Spec PyProof.Rows
section
variable {X : Cx} {pins : List (Addr × Obj)} {σ : L2.St} {H : Hp} {s : Shared} {a C : Addr} {d : Option Addr} {oe : Obj}
/-- a thing that was only held fast is told of -/
theorem tell_ext {φ : Heap → Prop} (I : Inv X ((a, oe) :: pins) σ H s) (na : X.s_0.heap.get? a = none) (np : ∀ p, p ∈ X.pn ++ pins → p.1 ≠ a) (hφ : φ s.heap) (st : ∀ h1 h2 : Heap, φ h1 → (∀ o, h1.get? a = some o → h2.get? a = some o) → φ h2) : Inv X pins σ (upd H a (.ext φ)) s := by
  have mem : (a, oe) ∈ X.pn ++ (a, oe) :: pins := List.mem_append_right _ (List.mem_cons_self ..)
  obtain ⟨p1, p2, p3, p4, p5⟩ := I.pin _ mem
  have off : ∀ {b : Addr} {u : HO}, H b = some u → b ≠ a := fun {b u} e z => by
    have p2 : H a = none := p2
    rw [z, p2] at e
    cases e
  have old : ∀ {b : Addr} {o : Obj}, X.s_0.heap.get? b = some o → b ≠ a := fun {b o} e z => by rw [z, na] at e; cases e
  have pn : ∀ p, p ∈ X.pn ++ pins → p ∈ X.pn ++ (a, oe) :: pins := fun p hp => by
    rcases List.mem_append.mp hp with h | h
    · exact List.mem_append_left _ h
    · exact List.mem_append_right _ (List.mem_cons_of_mem _ h)
  obtain ⟨b1, b2, b3, b4, b5, b6, b7⟩ := I.base
  refine ⟨I.ok, I.os, I.bare, ⟨b1, b2, ?_, b4, ?_, ?_, ?_⟩, I.loc, I.cell, ?_, ?_, ?_, ?_, I.len⟩
  · exact fun b o e n hx => (upd_ne (old e)).trans (b3 b o e n hx)
  · exact fun b xs e => (upd_ne (off (b5 b xs e))).trans (b5 b xs e)
  · exact fun b o u e => (upd_ne (off (b6 b o u e))).trans (b6 b o u e)
  · intro b ps e
    obtain ⟨more, q⟩ := b7 b ps e
    exact ⟨more, (upd_ne (off q)).trans q⟩
  · exact (upd_ne (Ne.symm p3)).trans I.free
  · intro x c e
    obtain ⟨v, hc⟩ := I.cell x c e
    refine (upd_ne fun z => ?_).trans (I.freeC x c e)
    obtain ⟨o, e1, e2⟩ := hc
    have p1 : s.heap.get? a = some oe := p1
    rw [z, p1] at e1
    cases e1
    exact p5 v e2
  · intro p hp
    obtain ⟨q1, q2, q3, q4, q5⟩ := I.pin p (pn p hp)
    exact ⟨q1, (upd_ne (np p hp)).trans q2, q3, q4, q5⟩
  · intro b u e
    by_cases z : b = a
    · rw [z, upd_same] at e
      cases e
      rw [z]
      exact ⟨hφ, ⟨oe, p1⟩, st⟩
    · rw [upd_ne z] at e
      refine (I.hok b u e).stay (fun c v _ q => q) (fun c q => (upd_ne (off q)).trans q) fun c xs q => (upd_ne (off q)).trans q
end
/-- what the clause 'except c as n', whose suite keeps the error, wishes of an error of the body -/
def wKept (K : PySem.W.Frag) (c : Value) (i : Nat) (ts : Addr → TS) (D : Ends) : WX := fun cls d σ H =>
  ∃ C, cls = .ref C ∧ PySem.W.exmOne K cls c = some true ∧ ∀ a, H a = none → ts a { nx := fun τ J => D.nx (τ.set i none) (upd J a (exHO C d a)), rt := fun _ _ => False, bk := fun _ _ => False, ct := fun _ _ => False } (σ.set i (some (.ref a))) H
section
variable {X : Cx} {x n : Str} {c : Value} {i : Nat} {body suite : List Stmt} {b₀ : Stmt} {np pos pos' : Pos} {tb : WX → TS} {ts : Addr → TS}
/-- a thing of the air is on none of the frames -/
theorem off_frames {B h : Heap} {l : List PySem.Env} {a : Addr} {o : Obj} {vs : Array Value} (ff : h.FunFrames B l) (e : h.get? a = some o) (q : o.data = .fields vs) : a ∉ frs l := fun hm => by
  obtain ⟨_, o2, e2, hn⟩ := ff.mem hm
  cases e.symm.trans e2
  exact hn _ q
theorem ps_try_kept (hxe : X.ex = []) (hs : X.stack = X.env :: X.outer) (hf : X.env.frame = some X.env.locals) (hN : X.N.Nodup) (hi : X.N[i]? = some n) (hln : X.env.kindOf n = some .local) (hc : Names X x c)
    (hb : ∀ (W : WX) (pl : List (Addr × Obj)) (xe : Value → Shared → Prop), L2.Takes (X.tr pl xe) W → PSs (X.tr pl xe) body (tb W))
    (hsu : ∀ (a : Addr) (oe : Obj) (pl : List (Addr × Obj)), PSs (X.suite a ((a, oe) :: pl)) (b₀ :: suite) (ts a)) :
    PS X (.Try body [.ExceptHandler (some (.Name x np)) (some n) (b₀ :: suite) pos'] [] [] pos) (fun D σ H => tb (wKept X.K c i ts D) D σ H) := by
  constructor
  intro pins s σ H D I h
  have ok := I.ok
  have hfr : X.A.frames = some (X.env :: X.outer) := ok.frames.trans (congrArg some hs)
  refine wpAny_Try_except ?_
  have good := hb (wKept X.K c i ts D) (X.pn ++ pins) (fun e t1 => wpAny (model X.prog X.w) X.A (noteFrame e X.env)
    (fun _ t2 => wpAny (model X.prog X.w) X.A (setFlight e none)
      (fun _ t3 => wpAny (model X.prog X.w) X.A (handleBy e X.env [.ExceptHandler (some (.Name x np)) (some n) (b₀ :: suite) pos']) (SP X pins D) X.xe t3) X.xe t2) X.xe t1) ?air
  case air =>
    rintro u t ⟨a, B, sI, pins2, τ, J, cls, d, rfl, I2, nb, up, sky, na, os, ag, C, rfl, hex, hyes⟩
    have I3 : Inv X pins τ J sI := I2.ofTry ok
    have sky2 : Sky B (X.env :: X.outer) a (Zc (.ref C) d) X.env.locals t.heap := by
      rw [← hs]
      exact sky
    refine Sky.land Zc.steady hfr hf sky2 fun g1 fly1 up1 => ?_
    have J1 : Inv X pins τ J { t with heap := g1 } := I3.landed nb fly1.1 (up.trans up1) os ag
    obtain ⟨o1, vs1, get1, zc1, dat1⟩ := fly1.there
    have no1 := off_frames fly1.2.2.1 get1 dat1
    have noL : a ≠ X.env.locals := fun z => no1 (List.mem_filterMap.mpr ⟨X.env, List.mem_cons_self .., by rw [hf, z]⟩)
    have noF : a ∉ X.fs := fun hm => by
      obtain ⟨e, he, q⟩ := List.mem_filterMap.mp hm
      exact no1 (List.mem_filterMap.mpr ⟨e, List.mem_cons_of_mem _ he, q⟩)
    have noI : sI.heap.get? a = none := by
      cases q : sI.heap.get? a with
      | none => rfl
      | some o =>
        have := nb a o q (by rw [hs]; exact no1)
        rw [fly1.2.1] at this
        cases this
    have no0 : X.s_0.heap.get? a = none := by
      cases q : X.s_0.heap.get? a with
      | none => rfl
      | some o =>
        obtain ⟨o2, q2⟩ := I3.base.there a o q (by rw [hxe]; exact fun z => nomatch z)
        rw [noI] at q2
        cases q2
    have noP : ∀ p, p ∈ X.pn ++ pins → p.1 ≠ a := fun p hp z => by
      have q := (I3.pin p hp).1
      rw [z, noI] at q
      cases q
    have K1 := J1.suite get1 dat1 na noL noF
    refine wpAny_handleBy_cons (codeAny_handlers_test ?_) (by intro q; cases q)
    have ty1 : PySem.W.Looks (model X.prog X.w) g1 (typeOf (.ref a)) (.ref C) := fun A Q E s k q => wpAny_typeOf_ref (k _ _ get1) (by rw [zc1.1]; exact q)
    have ans := PySem.W.exm_one (M := model X.prog X.w) J1.kIn ty1 hex
    have name : ∀ {Q : Value → Shared → Prop} {E : Value → Shared → Prop}, Q c { t with heap := g1 } → wpAny (model X.prog X.w) (X.A.mark (some (.ref a))) (eval (.Name x np) X.env) Q E { t with heap := g1 } := by
      intro Q E q
      obtain ⟨hg, hd, hm | ⟨hm, hv, hn⟩⟩ := hc
      · exact ld_glob (X := X.suite a ((a, o1) :: (X.pn ++ pins))) K1 hg hm q hd
      · exact ld_blt (X := X.suite a ((a, o1) :: (X.pn ++ pins))) K1 hg hm hv q hn hd
    refine name (ans.here ?_)
    refine codeAny_handlers_suite_as (HandSPX.lands_againZ fly1 fun g2 fly2 up2 => ?_)
    have J2 : Inv X pins τ J { t with heap := g2 } := I3.landed nb fly2.1 ((up.trans up1).trans up2) os ag
    obtain ⟨o2, vs2, get2, zc2, dat2⟩ := fly2.there
    have K2 := J2.suite get2 dat2 na noL noF
    refine store_ok (X := X.suite a ((a, o2) :: (X.pn ++ pins))) (v := .ref a) K2 hN hi (.inl hln) rfl (fun t5 K5 => ?_) (.inr hln)
    refine wpAny_mono ((hsu a o2 (X.pn ++ pins)).run [] t5 _ J _ K5 (hyes a na)) (fun fl t6 post => ?_) fun _ _ z => False.elim z
    cases fl with
    | next =>
      obtain ⟨τ6, J6, K6, q6⟩ := post
      have back : Inv X pins τ6 J6 t6 := K6.unsuite ok
      have pinA := K6.pin (a, o2) (List.mem_append_left _ (List.mem_cons_self ..))
      have held : Inv X ((a, o2) :: pins) τ6 J6 t6 := Inv.pins_of (pins' := (a, o2) :: pins) back fun p hp => by
        rcases List.mem_cons.mp hp with rfl | hp
        · exact pinA
        · exact back.pin p (List.mem_append_right _ hp)
      have held2 : Inv X ((a, o2) :: pins) τ6 J6 t6 := held
      refine gone_ok held2 hN hi hln fun t7 I7 => ?_
      have g7 := (I7.pin (a, o2) (List.mem_append_right _ (List.mem_cons_self ..))).1
      exact ⟨_, _, tell_ext I7 no0 noP ⟨o2, vs2, g7, zc2, dat2⟩ fun h1 h2 ⟨oo, ww, r1, r2, r3⟩ st => ⟨oo, ww, st _ r1, r2, r3⟩, q6⟩
    | brk => obtain ⟨_, _, _, z⟩ := post; exact z.elim
    | cont => obtain ⟨_, _, _, z⟩ := post; exact z.elim
    | ret u => obtain ⟨_, _, _, _, _, z⟩ := post; exact z.elim
  refine wpAny_mono (good.run [] s σ H D (I.toTry _) h) (fun fl t post => ?_) fun _ _ z => z
  cases fl with
  | next =>
    obtain ⟨τ, J, K, q⟩ := post
    exact wpAny_execs_nil ⟨τ, J, K.ofTry ok, q⟩
  | brk => obtain ⟨τ, J, K, q⟩ := post; exact ⟨τ, J, K.ofTry ok, q⟩
  | cont => obtain ⟨τ, J, K, q⟩ := post; exact ⟨τ, J, K.ofTry ok, q⟩
  | ret u => obtain ⟨v, τ, J, K, r, q⟩ := post; exact ⟨v, τ, J, K.ofTry ok, r, q⟩
end
end KS
namespace KS
open PySem L2
section
variable {X : Cx} {T : Tb} {CT : Ct} {G : Gm} {N : List Str} {sc : Scope} {w : Nat} {ms : List Bool}
theorem st_tryKeep (C : Cok X T CT G N sc) (hxe : X.ex = []) (hst : X.stack = X.env :: X.outer) (hfr : X.env.frame = some X.env.locals) {i c je j : Nat} {e : E} {x cx n n2 y : Str} {px py p1 p2 p3 p4 pos pos2 : Pos} {v : Expr}
    (h1 : slotB N sc i x = true) (h2 : stoB ms i = true) (h3 : compOk sc x px v = true) (h4 : chkE T N sc e v = true) (h5 : T.tr = true)
    (k1 : T.xs = true) (k2 : c < 5 ∧ T.xc c = true) (k3 : excNm c = cx) (k4 : glB sc cx = true) (k5 : dbgB cx = true) (k6 : N[je]? = some n) (k7 : sc.names.lookup n = some .local) (k8 : nameB N sc je n2 = true) (k9 : slotB N sc j y = true) (k10 : je ≠ j) (k11 : stoB ms je = true) (k12 : stoB ms j = true) :
    SSt X CT G w ms (.tryE i e c (.keep je j)) (.Try [.Assign [.Name x px] v pos] [.ExceptHandler (some (.Name cx p1)) (some n) [.Assign [.Name y py] (.Name n2 p2) p3] p4] [] [] pos2) := fun W tk => by
  obtain rfl := C.tr h5
  have F := C.xs k1
  obtain ⟨D0, g1, g2, g3, g4, g5, g6⟩ := F.cl c k2
  rw [k3] at g2
  have hln : X.env.kindOf n = some .local := (C.scr n _ k7).1 (by decide)
  have su : ∀ (a : Addr) (oe : Obj) (pl : List (Addr × Obj)), PSs (X.suite a ((a, oe) :: pl)) [.Assign [.Name y py] (.Name n2 p2) p3] (tAsg (tVar je) (gName j)) := fun a oe pl => by
    unfold nameB at k8
    rw [Bool.and_eq_true, Bool.and_eq_true, decide_eq_true_eq] at k8
    unfold slotB at k9
    rw [Bool.and_eq_true, Bool.and_eq_true, decide_eq_true_eq] at k9
    obtain ⟨d1, d2⟩ := dbg_of k8.2
    exact pss_one (ps_set (X := X.suite a ((a, oe) :: pl)) (i := j) (show X.N.Nodup by rw [C.nn]; exact C.nd) (show X.N[j]? = some y by rw [C.nn]; exact k9.1.1) (C.loc k9.1.2) (pe_var (X := X.suite a ((a, oe) :: pl)) (show X.N[je]? = some n2 by rw [C.nn]; exact k8.1.1) (C.vis k8.1.2) d1 d2) (sw_not rfl) (C.st y k9.1.2))
  refine ⟨_, ps_try_kept (i := je) (tb := fun W => tTry X false G i e W) hxe hst hfr (by rw [C.nn]; exact C.nd) (by rw [C.nn]; exact k6) hln ⟨C.glo k4, (dbg_of k5).1, .inl g2⟩ (fun W pl xe tk => pss_try (CT := false) (G := G) C h1 h3 h4 (pos := pos) tk) su, fun R σ H lab ρ K D Ψ cl hs r0 E kd hx hp => ?_⟩
  obtain ⟨hst', hp⟩ := den_unK hs (show Ψ ((KS.T.un (!e.still) fun _ => .sub (tryB i e ρ) (tryK i c (.keep je j) ρ K)).den G) from hp)
  have hp : Ψ ((tryK i c (.keep je j) ρ K ((tryB i e ρ).den G)).den G) := hp
  refine try_read (Ψ' := fun rf => Ψ ((tryK i c (.keep je j) ρ K rf).den G)) (Ψ := Ψ) (k := K.nx) (by simpa using hst') cl hs r0 E h2 (fun σ' H' ρ' r' E' hp' => kd.nx σ' H' lab ρ' r' E' hp') (fun cc pl cls dx J r' E' xo hp' => ?_) hp
  obtain ⟨hsub, hp'⟩ := den_unK hs (show Ψ ((KS.T.un (!excSub cc c) fun _ => KS.T.un (!(pl.isEmpty && decide (je < ρ.length))) fun _ => .opt (storeS (ρ.set je .dead) j (.dat (.exc cc pl))) fun ρ1 => K.nx ρ1).den G) from hp')
  obtain ⟨hpl, hp'⟩ := den_unK hs hp'
  obtain ⟨ρ1, hst1, hp'⟩ := den_optK hs hp'
  have hsub : excSub cc c = true := by simpa using hsub
  have hpl : (pl.isEmpty && decide (je < ρ.length)) = true := by
    cases q : (pl.isEmpty && decide (je < ρ.length)) with
    | true => rfl
    | false => rw [q] at hpl; cases hpl
  obtain ⟨hpl, hjl⟩ := and2 hpl
  have hjl := dec hjl
  have hpl : pl = [] := by simpa using hpl
  subst hpl
  obtain ⟨C1, x1, rfl, x2⟩ := xo
  have hdx : dx = none := by
    cases dx with
    | none => rfl
    | some _ => exact x2.elim
  subst hdx
  have hjl : je < σ.length := by
    rw [← E'.len]
    exact hjl
  refine ⟨C1, rfl, by rw [F.exm x1 g1, hsub], fun a ha => ⟨.ref a, by rw [List.getElem?_set_self hjl], ?_⟩⟩
  unfold storeS at hst1
  split at hst1
  · rename_i hj
    cases hst1
    have nw : Nw J (upd J a (exHO C1 none a)) := Nw.new ha
    have E2 := (E'.nw nw).kill je none
    have rp : Rep X.K (FH (upd J a (exHO C1 none a)) lab) (.exc cc []) (.ref a) := by
      rw [Rep]
      exact ⟨a, C1, none, [], rfl, FH_new E'.lok ha, x1, RepAll.nil, .inl ⟨rfl, rfl⟩⟩
    have E3 := E2.set (i := j) rp hj
    have es : ((σ.set je (some (.ref a))).set j (some (.ref a))).set je none = (σ.set je none).set j (some (.ref a)) := by
      rw [List.set_comm _ _ (Ne.symm k10), List.set_set]
    show D.nx (((σ.set je (some (.ref a))).set j (some (.ref a))).set je none) _
    rw [es]
    exact kd.nx _ _ lab _ (cl.set (cl.set (cl.step (t := fun _ => false) r' (nw.stp E'.lok)) k11) k12) E3 hp'
  · cases hst1
theorem st_trySet (C : Cok X T CT G N sc) (hst : X.stack = X.env :: X.outer) (hfr : X.env.frame = some X.env.locals) {i c j : Nat} {b : Bool} {e : E} {x cx y : Str} {q : Nat} {px py p1 p2 p3 p4 pos pos2 : Pos} {v : Expr}
    (h1 : slotB N sc i x = true) (h2 : stoB ms i = true) (h3 : compOk sc x px v = true) (h4 : chkE T N sc e v = true) (h5 : T.tr = true)
    (k1 : T.xs = true) (k2 : c < 5 ∧ T.xc c = true) (k3 : excNm c = cx) (k4 : glB sc cx = true) (k5 : dbgB cx = true) (k9 : slotB N sc j y = true) (k12 : stoB ms j = true) :
    SSt X CT G w ms (.tryE i e c (.set j b)) (.Try [.Assign [.Name x px] v pos] [.ExceptHandler (some (.Name cx p1)) none [.Assign [.Name y py] (.Constant (.bool b) q p2) p3] p4] [] [] pos2) := fun W tk => by
  obtain rfl := C.tr h5
  have F := C.xs k1
  obtain ⟨D0, g1, g2, g3, g4, g5, g6⟩ := F.cl c k2
  rw [k3] at g2
  have su : ∀ (a : Addr) (oe : Obj) (cls : Value) (d : Option Addr) (pl : List (Addr × Obj)), Zc cls d oe → (∃ vs, oe.data = .fields vs) → PSs (X.suite a ((a, oe) :: pl)) [.Assign [.Name y py] (.Constant (.bool b) q p2) p3] (tAsg (tC (.bl b)) (gName j)) := fun a oe cls d pl _ _ => by
    unfold slotB at k9
    rw [Bool.and_eq_true, Bool.and_eq_true, decide_eq_true_eq] at k9
    exact pss_one (ps_set (X := X.suite a ((a, oe) :: pl)) (i := j) (show X.N.Nodup by rw [C.nn]; exact C.nd) (show X.N[j]? = some y by rw [C.nn]; exact k9.1.1) (C.loc k9.1.2) pe_bl (sw_not rfl) (C.st y k9.1.2))
  refine ⟨_, L2.ps_try_only (tb := fun W => tTry X false G i e W) (ts := fun _ _ _ => tAsg (tC (.bl b)) (gName j)) (Wout := W) hst hfr ⟨C.glo k4, (dbg_of k5).1, .inl g2⟩ tk (fun W pl xe tk _ => pss_try (CT := false) (G := G) C h1 h3 h4 (pos := pos) tk) su, fun R σ H lab ρ K D Ψ cl hs r0 E kd hx hp => ?_⟩
  obtain ⟨hst', hp⟩ := den_unK hs (show Ψ ((KS.T.un (!e.still) fun _ => .sub (tryB i e ρ) (tryK i c (.set j b) ρ K)).den G) from hp)
  have hp : Ψ ((tryK i c (.set j b) ρ K ((tryB i e ρ).den G)).den G) := hp
  refine try_read (Ψ' := fun rf => Ψ ((tryK i c (.set j b) ρ K rf).den G)) (Ψ := Ψ) (k := K.nx) (by simpa using hst') cl hs r0 E h2 (fun σ' H' ρ' r' E' hp' => kd.nx σ' H' lab ρ' r' E' hp') (fun cc pl cls dx J r' E' xo hp' => ?_) hp
  obtain ⟨hsub, hp'⟩ := den_unK hs (show Ψ ((KS.T.un (!excSub cc c) fun _ => .opt (storeS ρ j (.dat (.bl b))) fun ρ1 => K.nx ρ1).den G) from hp')
  obtain ⟨ρ1, hst1, hp'⟩ := den_optK hs hp'
  have hsub : excSub cc c = true := by simpa using hsub
  obtain ⟨C1, x1, rfl, x2⟩ := xo
  refine ⟨true, by rw [F.exm x1 g1, hsub], fun _ a ha => ?_, fun z => nomatch z⟩
  unfold storeS at hst1
  split at hst1
  · rename_i hj
    cases hst1
    exact kd.nx _ _ lab _ (cl.set r' k12) (E'.set rep_bl hj) hp'
  · cases hst1
end
end KS

set_option Elab.async false
set_option linter.all false
set_option maxRecDepth 100000
namespace KS
open PySem L2
section
variable {T : Tb} {CT : Ct} {G : Gm} {N : List Str} {w : Nat} {ms : List Bool} {X : Cx} {sc : Scope}
/-- where a def's body runs -/
structure FrOk (X : Cx) : Prop where
  ex : X.ex = []
  st : X.stack = X.env :: X.outer
  fr : X.env.frame = some X.env.locals
theorem st_tryKeep' (C : Cok X T CT G N sc) (fr : FrOk X) {i c je j : Nat} {e : E} {x : Str} {px pos pos2 : Pos} {v : Expr} {hs : List ExceptHandler}
    (h1 : slotB N sc i x = true) (h2 : stoB ms i = true) (h3 : compOk sc x px v = true) (h4 : chkE T N sc e v = true) (h5 : T.tr = true) (h : chkHd T N sc ms c (.keep je j) hs = true) : SSt X CT G w ms (.tryE i e c (.keep je j)) (.Try [.Assign [.Name x px] v pos] hs [] [] pos2) := by
  have h : (match (generalizing := false) hs with
    | [.ExceptHandler (some (.Name cx _)) (some n) [.Assign [.Name y _] (.Name n2 _) _] _] => T.xs && decide (c < 5 ∧ T.xc c = true) && decide (excNm c = cx) && glB sc cx && dbgB cx && decide (N[je]? = some n) && decide (sc.names.lookup n = some .local) && nameB N sc je n2 && slotB N sc j y && decide (je ≠ j) && !(ms[je]? == some true) && !(ms[j]? == some true)
    | _ => false) = true := h
  split at h
  · obtain ⟨h, k12⟩ := and2 h
    obtain ⟨h, k11⟩ := and2 h
    obtain ⟨h, k10⟩ := and2 h
    obtain ⟨h, k9⟩ := and2 h
    obtain ⟨h, k8⟩ := and2 h
    obtain ⟨h, k7⟩ := and2 h
    obtain ⟨h, k6⟩ := and2 h
    obtain ⟨h, k5⟩ := and2 h
    obtain ⟨h, k4⟩ := and2 h
    obtain ⟨h, k3⟩ := and2 h
    obtain ⟨k1, k2⟩ := and2 h
    exact st_tryKeep C fr.ex fr.st fr.fr h1 h2 h3 h4 h5 k1 (dec k2) (dec k3) k4 k5 (dec k6) (dec k7) k8 k9 (dec k10) k11 k12
  · cases h
theorem st_trySet' (C : Cok X T CT G N sc) (fr : FrOk X) {i c j : Nat} {b : Bool} {e : E} {x : Str} {px pos pos2 : Pos} {v : Expr} {hs : List ExceptHandler}
    (h1 : slotB N sc i x = true) (h2 : stoB ms i = true) (h3 : compOk sc x px v = true) (h4 : chkE T N sc e v = true) (h5 : T.tr = true) (h : chkHd T N sc ms c (.set j b) hs = true) : SSt X CT G w ms (.tryE i e c (.set j b)) (.Try [.Assign [.Name x px] v pos] hs [] [] pos2) := by
  have h : (match (generalizing := false) hs with
    | [.ExceptHandler (some (.Name cx _)) none [.Assign [.Name y _] (.Constant (.bool b2) _ _) _] _] => T.xs && decide (c < 5 ∧ T.xc c = true) && decide (excNm c = cx) && glB sc cx && dbgB cx && slotB N sc j y && !(ms[j]? == some true) && b == b2
    | _ => false) = true := h
  split at h
  · obtain ⟨h, k8⟩ := and2 h
    obtain ⟨h, k7⟩ := and2 h
    obtain ⟨h, k6⟩ := and2 h
    obtain ⟨h, k5⟩ := and2 h
    obtain ⟨h, k4⟩ := and2 h
    obtain ⟨h, k3⟩ := and2 h
    obtain ⟨k1, k2⟩ := and2 h
    have k8 := beq_iff_eq.mp k8
    subst k8
    exact st_trySet C fr.st fr.fr h1 h2 h3 h4 h5 k1 (dec k2) (dec k3) k4 k5 k6 k7
  · cases h
mutual
theorem sndSt (C : Cok X T CT G N sc) (fr : FrOk X) (po : PassesOwn (model X.prog X.w) X.A X.env X.xe) : ∀ (s : S) (st : Stmt), chkS T N sc ms s st = true → SSt X CT G w ms s st
  | .asg i e, st, h => by
    cases st with
    | Assign ts v pos => cases ts with
      | nil => cases h
      | cons t ts => cases ts with
        | cons _ _ => cases t <;> cases h
        | nil => cases t with
          | Name x px =>
            obtain ⟨h, h4⟩ := and2 h
            obtain ⟨h, h3⟩ := and2 h
            obtain ⟨h1, h2⟩ := and2 h
            exact st_asg h1 h2 h3 (sndS C h4)
          | _ => cases h
    | _ => cases h
  | .asgO i e, st, h => by
    cases st with
    | Assign ts v pos => cases ts with
      | nil => cases h
      | cons t ts => cases ts with
        | cons _ _ => cases t <;> cases h
        | nil => cases t with
          | Name x px =>
            obtain ⟨h, h4⟩ := and2 h
            obtain ⟨h, h3⟩ := and2 h
            obtain ⟨h1, h2⟩ := and2 h
            exact st_asgO h1 h2 h3 fun hf => sndF C hf h4
          | _ => cases h
    | _ => cases h
  | .asgT tg e, st, h => by
    cases st with
    | Assign ts v pos => cases ts with
      | nil => cases h
      | cons t ts => cases ts with
        | cons _ _ => cases t <;> cases h
        | nil => cases t with
          | Tuple es k p =>
            obtain ⟨h, h5⟩ := and2 h
            obtain ⟨h, h4⟩ := and2 h
            obtain ⟨h, h3⟩ := and2 h
            obtain ⟨h1, h2⟩ := and2 h
            exact st_asgT C h1 h2 (by rw [Bool.or_eq_true] at h3; rcases h3 with h3 | h3; exact .inl (notB h3); exact .inr h3) (notB h4) (sndE e v C h5).1
          | _ => cases h
    | _ => cases h
  | .swap i j a b, st, h => by
    cases st with
    | Assign ts v pos => cases ts with
      | nil => cases h
      | cons t ts => cases ts with
        | cons _ _ => cases t <;> cases h
        | nil => cases t with
          | Tuple es k p => cases v with
            | Tuple vs k2 p2 =>
              have h : chkSw T N sc ms i j a b es vs = true := h
              unfold chkSw at h
              split at h
              · obtain ⟨h, h11⟩ := and2 h
                obtain ⟨h, h10⟩ := and2 h
                obtain ⟨h, h9⟩ := and2 h
                obtain ⟨h, h8⟩ := and2 h
                obtain ⟨h, h7⟩ := and2 h
                obtain ⟨h, h6⟩ := and2 h
                obtain ⟨h, h5⟩ := and2 h
                obtain ⟨h, h4⟩ := and2 h
                obtain ⟨h, h3⟩ := and2 h
                obtain ⟨h1, h2⟩ := and2 h
                exact st_swap C h1 h2 h3 h4 (sndE a _ C h5).1 (sndE b _ C h6).1 h7 h8 (dec h9) (dec h10) (dec h11)
              · cases h
            | _ => cases h
          | _ => cases h
    | _ => cases h
  | .setF _ _ _, st, h => by cases h
  | .setFO _ _ _, st, h => by cases h
  | .app p e, st, h => by
    cases st with
    | Expr c pos => cases c with
      | Call f as kws cpos => cases f with
        | Attribute o m apos => cases as with
          | nil => cases h
          | cons v as => cases as with
            | cons _ _ => cases h
            | nil => cases kws with
              | cons _ _ => cases h
              | nil =>
                obtain ⟨h, h5⟩ := and2 h
                obtain ⟨h, h4⟩ := and2 h
                obtain ⟨h, h3⟩ := and2 h
                obtain ⟨h1, h2⟩ := and2 h
                obtain rfl := dec h1
                exact st_app C h2 (notB h3) h4 (sndE e v C h5).1
        | _ => cases h
      | _ => cases h
    | _ => cases h
  | .extd p e, st, h => by
    cases st with
    | Expr c pos => cases c with
      | Call f as kws cpos => cases f with
        | Attribute o m apos => cases as with
          | nil => cases h
          | cons v as => cases as with
            | cons _ _ => cases h
            | nil => cases kws with
              | cons _ _ => cases h
              | nil =>
                obtain ⟨h, h5⟩ := and2 h
                obtain ⟨h, h4⟩ := and2 h
                obtain ⟨h, h3⟩ := and2 h
                obtain ⟨h1, h2⟩ := and2 h
                obtain rfl := dec h1
                exact st_extd C h2 (notB h3) h4 (sndE e v C h5).1
        | _ => cases h
      | _ => cases h
    | _ => cases h
  | .setL p k e, st, h => by
    cases st with
    | Assign ts v pos => cases ts with
      | nil => cases h
      | cons t ts => cases ts with
        | cons _ _ => cases t <;> cases h
        | nil => cases t with
          | Subscript o i tpos =>
            obtain ⟨h, h5⟩ := and2 h
            obtain ⟨h, h4⟩ := and2 h
            obtain ⟨h, h3⟩ := and2 h
            obtain ⟨h1, h2⟩ := and2 h
            exact st_setL C (notB h1) h2 (notB h3) (sndE k i C h4).1 (sndE e v C h5).1
          | _ => cases h
    | _ => cases h
  | .putD p k e, st, h => by
    cases st with
    | Assign ts v pos => cases ts with
      | nil => cases h
      | cons t ts => cases ts with
        | cons _ _ => cases t <;> cases h
        | nil => cases t with
          | Subscript o i tpos =>
            obtain ⟨h, h5⟩ := and2 h
            obtain ⟨h, h4⟩ := and2 h
            obtain ⟨h, h3⟩ := and2 h
            obtain ⟨h1, h2⟩ := and2 h
            exact st_putD C h2 (notB h3) (sndE k i C h4).1 (sndE e v C h5).1
          | _ => cases h
    | _ => cases h
  | .expr e, st, h => by
    cases st with
    | Expr v pos =>
      obtain ⟨h1, h2⟩ := and2 h
      exact st_expr (notB h1) (sndE e v C h2).1
    | _ => cases h
  | .ret e, st, h => by
    cases st with
    | Return v pos => cases v with
      | none => cases h
      | some v => exact st_ret (sndE e v C h).1
    | _ => cases h
  | .retO i, st, h => by
    cases st with
    | Return v pos => cases v with
      | none => cases h
      | some v => cases v with
        | Name x p =>
          obtain ⟨h1, h2⟩ := and2 h
          exact st_retO C h1 h2
        | _ => cases h
    | _ => cases h
  | .if_ c a b, st, h => by
    cases st with
    | If t x y pos =>
      obtain ⟨h, h3⟩ := and2 h
      obtain ⟨h1, h2⟩ := and2 h
      exact st_if (sndE c t C h1).2 (sndSs C fr po a x h2) (sndSs C fr po b y h3)
    | _ => cases h
  | .for_ tg it body, st, h => by
    cases st with
    | For t iter b els pos => cases els with
      | cons _ _ => cases h
      | nil =>
        obtain ⟨h, h5⟩ := and2 h
        obtain ⟨h, h4⟩ := and2 h
        obtain ⟨h, h3⟩ := and2 h
        obtain ⟨h1, h2⟩ := and2 h
        exact st_for C po h1 h2 (notB h3) (sndI it iter C h4) (sndSs C fr po body b h5)
    | _ => cases h
  | .forD tg i body, st, h => by
    cases st with
    | For t iter b els pos => cases els with
      | cons _ _ => (cases iter <;> cases h)
      | nil => cases iter with
        | Name x px =>
          obtain ⟨h, h4⟩ := and2 h
          obtain ⟨h, h3⟩ := and2 h
          obtain ⟨h1, h2⟩ := and2 h
          exact st_forD C po h1 h2 h3 (sndSs C fr po body b h4)
        | _ => cases h
    | _ => cases h
  | .while_ c body, st, h => by
    cases st with
    | While t b els pos => cases els with
      | cons _ _ => cases h
      | nil =>
        obtain ⟨h1, h2⟩ := and2 h
        exact st_while C po (sndE c t C h1).2 (sndSs C fr po body b h2)
    | _ => cases h
  | .raise_ c es, st, h => by
    cases es with
    | cons _ _ => cases h
    | nil => cases st with
      | Raise e cause pos => cases e with
        | none => cases h
        | some e => cases e with
          | Call f as kws p => cases f with
            | Name y py => cases as with
              | nil => cases h
              | cons a as => cases a with
                | Constant k j p2 => cases k with
                  | str m => cases as with
                    | cons _ _ => cases h
                    | nil => cases kws with
                      | cons _ _ => cases h
                      | nil => cases cause with
                        | some _ => cases h
                        | none =>
                          obtain ⟨h, h6⟩ := and2 h
                          obtain ⟨h, h5⟩ := and2 h
                          obtain ⟨h, h4⟩ := and2 h
                          obtain ⟨h, h3⟩ := and2 h
                          obtain ⟨h1, h2⟩ := and2 h
                          exact st_raise C h1 (dec h2) (dec h3) (dec h4) h5 h6
                  | _ => cases h
                | _ => cases h
            | _ => cases h
          | _ => cases h
      | _ => cases h
  | .skip, st, h => st_skip
  | .tryE i e c hd, st, h => by
    cases st with
    | Try body hs els fin pos => cases body with
      | nil => cases h
      | cons b body => cases b with
        | Assign ts v ap => cases ts with
          | nil => cases h
          | cons t ts => cases ts with
            | cons _ _ => cases t <;> cases h
            | nil => cases t with
              | Name x px => cases body with
                | cons _ _ => cases h
                | nil => cases els with
                  | cons _ _ => cases h
                  | nil => cases fin with
                    | cons _ _ => cases h
                    | nil =>
                      obtain ⟨h, h6⟩ := and2 h
                      obtain ⟨h, h5⟩ := and2 h
                      obtain ⟨h, h4⟩ := and2 h
                      obtain ⟨h, h3⟩ := and2 h
                      obtain ⟨h1, h2⟩ := and2 h
                      cases hd with
                      | no => cases hs with
                        | nil => cases h6
                        | cons h0 hs => cases hs with
                          | cons _ _ => (obtain ⟨_, _, _, _⟩ := h0; cases h6)
                          | nil => exact st_tryNo C h1 h2 h3 h4
                      | keep je j => exact st_tryKeep' C fr h1 h2 h3 h4 h5 h6
                      | set j b => exact st_trySet' C fr h1 h2 h3 h4 h5 h6
                      | raise _ => cases h6
              | _ => cases h
        | _ => cases h
    | _ => cases h
  | .new _ _ _, st, h => by cases h
  | .retF _ _, st, h => by cases h
  | .upd _ _, st, h => by cases h
  | .popT _ _ _ _, st, h => by cases h
  | .cont, st, h => by
    cases st with
    | Continue pos => exact st_cont
    | _ => cases h
  | .brk, st, h => by
    cases st with
    | Break pos => exact st_brk
    | _ => cases h
  | .pass, st, h => by
    cases st with
    | Pass pos => exact st_pass
    | _ => cases h
theorem sndSs (C : Cok X T CT G N sc) (fr : FrOk X) (po : PassesOwn (model X.prog X.w) X.A X.env X.xe) : ∀ (s : Ss) (st : List Stmt), chkSs T N sc ms s st = true → SSs X CT G w ms s st
  | .nil, st, h => by
    cases st with
    | nil => exact ss_nil
    | cons _ _ => cases h
  | .cons s r, st, h => by
    cases st with
    | nil => cases h
    | cons st sts =>
      obtain ⟨h1, h2⟩ := and2 h
      exact ss_cons (sndSt C fr po s st h1) (sndSs C fr po r sts h2)
end
end
/-! ### a def -/
/-- what a def has done since its entry -/
structure Bs (ms : List Bool) (lab0 : Lab) (H0 : Hp) (σ0 : St) (lab : Lab) (H : Hp) (σ : St) : Prop where
  ok : LabOk lab0 H0
  loc : ∀ (a : Addr) (i j : Nat), lab0 a = some (.loc i j) → ms[i]? = some true
  stp : Stp (fun i => decide (ms[i]? = some true)) lab0 H0 H
  ext : ∀ a, H0 a ≠ none → lab a = lab0 a
  old : ∀ (a : Addr) (i j : Nat), lab a = some (.loc i j) → ms[i]? = some true → H0 a ≠ none
  par : ∀ i : Nat, ms[i]? = some true → σ[i]? = σ0[i]?
theorem Bs.step' {ms : List Bool} {lab0 : Lab} {H0 : Hp} {σ0 : St} {lab : Lab} {H H' : Hp} {σ : St} {t : Nat → Bool} (b : Bs ms lab0 H0 σ0 lab H σ) (s : Stp t lab H H') : Stp (fun i => decide (ms[i]? = some true)) lab0 H0 H' := by
  refine ⟨fun a e n => ?_, fun a i j e n => ?_, fun a e => ?_, fun a n => s.mono a (b.stp.mono a n)⟩
  · rw [s.fro a (by rw [b.ext a n]; exact e) (b.stp.mono a n), b.stp.fro a e n]
  · rw [decide_eq_true (b.loc a i j e)] at n; cases n
  · have n := b.ok a _ e
    rw [s.far a (by rw [b.ext a n]; exact e), b.stp.far a e]
theorem Bs.clo {ms : List Bool} {lab0 : Lab} {H0 : Hp} {σ0 : St} : Clo ms (Bs ms lab0 H0 σ0) where
  step := fun b s => ⟨b.ok, b.loc, b.step' s, b.ext, b.old, b.par⟩
  new := fun {lab H H' σ p l t} b s h q => ⟨b.ok, b.loc, b.step' s, fun a n => by
    have z : a ≠ p := fun z => b.stp.mono a n (by rw [z]; exact h)
    rw [relab_ne z]
    exact b.ext a n, fun a i j e hm => by
    by_cases z : a = p
    · rw [z, relab_same] at e
      have := q i j (Option.some.inj e)
      unfold stoB at this
      rw [hm] at this
      cases this
    · rw [relab_ne z] at e
      exact b.old a i j e hm, b.par⟩
  set := fun {lab H σ i o} b h => ⟨b.ok, b.loc, b.stp, b.ext, b.old, fun j hj => by
    have z : i ≠ j := fun z => by
      unfold stoB at h
      rw [z, hj] at h
      cases h
    rw [List.getElem?_set_ne z]
    exact b.par j hj⟩
  drop := fun {lab H σ p i j} b e h => ⟨b.ok, b.loc, b.stp, fun a n => by
    have z : a ≠ p := fun z => by
      have e2 := b.ext a n
      rw [z, e] at e2
      unfold stoB at h
      rw [b.loc p i j e2.symm] at h
      cases h
    rw [relab_ne z]
    exact b.ext a n, fun a i' j' e' hm => by
    by_cases z : a = p
    · rw [z, relab_same] at e'; cases e'
    · rw [relab_ne z] at e'
      exact b.old a i' j' e' hm, b.par⟩
section
variable {K : PySem.W.Frag} {H H0 : Hp} {lab lab0 : Lab} {ρ : Env} {σ : St}
theorem aok_len : ∀ {as : List SV} {vs : List V} {i : Nat}, AOk K H lab i as vs → as.length = vs.length
  | [], [], _, _ => rfl
  | _ :: _, _ :: _, _, h => by rw [List.length_cons, List.length_cons, aok_len h.2]
  | [], _ :: _, _, h => h.elim
  | _ :: _, [], _, h => h.elim
theorem aok_at : ∀ {as : List SV} {vs : List V} {i : Nat}, AOk K H lab i as vs → ∀ (j : Nat) (sv : SV), as[j]? = some sv → ∃ v, vs[j]? = some v ∧ OAt K H lab (i + j) sv v
  | [], [], _, _, j, sv, e => by cases e
  | sv0 :: as, v :: vs, i, h, j, sv, e => by
    cases j with
    | zero => cases e; exact ⟨v, rfl, h.1⟩
    | succ j =>
      obtain ⟨u, h1, h2⟩ := aok_at h.2 j sv e
      exact ⟨u, h1, by rw [show i + (j + 1) = i + 1 + j by omega]; exact h2⟩
  | [], _ :: _, _, h, _, _, _ => h.elim
  | _ :: _, [], _, h, _, _, _ => h.elim
theorem fit_len : ∀ {ms : List Bool} {as : List SV}, fitA ms as = true → as.length = ms.length
  | [], [], _ => rfl
  | true :: ms, v :: vs, h => by rw [List.length_cons, List.length_cons, fit_len (and2 h).2]
  | false :: ms, .dat _ :: vs, h => congrArg Nat.succ (fit_len (ms := ms) (as := vs) h)
  | false :: ms, .dead :: vs, h => by cases h
  | false :: ms, .ol _ :: vs, h => by cases h
  | false :: ms, .od _ :: vs, h => by cases h
  | false :: ms, .ob _ _ :: vs, h => by cases h
  | [], _ :: _, h => by cases h
  | true :: _, [], h => by cases h
  | false :: _, [], h => by cases h
theorem fit_own : ∀ {ms : List Bool} {as : List SV}, fitA ms as = true → ∀ j : Nat, ms[j]? = some true → ∃ sv : SV, as[j]? = some sv ∧ sv.own = true
  | [], [], _, j, e => by cases e
  | true :: ms, v :: vs, h, j, e => by
    cases j with
    | zero => exact ⟨v, rfl, (and2 h).1⟩
    | succ j => exact fit_own (and2 h).2 j e
  | false :: ms, .dat _ :: vs, h, j, e => by
    cases j with
    | zero => cases e
    | succ j => exact fit_own (ms := ms) h j e
  | false :: ms, .dead :: vs, h, _, _ => by cases h
  | false :: ms, .ol _ :: vs, h, _, _ => by cases h
  | false :: ms, .od _ :: vs, h, _, _ => by cases h
  | false :: ms, .ob _ _ :: vs, h, _, _ => by cases h
  | [], _ :: _, h, _, _ => by cases h
  | true :: _, [], h, _, _ => by cases h
  | false :: _, [], h, _, _ => by cases h
theorem outs_ok (E : EnvOk K σ H lab ρ) (rd : RdLe (FH H lab) (FH H lab0)) : ∀ {ms : List Bool} {i : Nat} {us : List SV} {vs : List V}, outsAt ρ ms i = some us → vs.length = ms.length →
    (∀ j : Nat, ms[j]? = some true → ∃ p : Addr, vs[j]? = some (.ref p) ∧ (∀ a j', lab a = some (.loc (i + j) j') → lab0 a = some (.loc (i + j) j')) ∧ σ[i + j]? = some (some (.ref p))) → OutsOk K H lab0 ms i us vs
  | [], i, us, vs, e, l, h => by
    cases e
    cases vs with
    | nil => trivial
    | cons _ _ => cases l
  | false :: ms, i, us, vs, e, l, h => by
    cases vs with
    | nil => cases l
    | cons v vs =>
      have := outs_ok E rd (ms := ms) (i := i + 1) (vs := vs) e (Nat.succ.inj l) fun j hj => by
        obtain ⟨p, h1, h2, h3⟩ := h (j + 1) hj
        exact ⟨p, h1, by rw [show i + 1 + j = i + (j + 1) by omega]; exact h2, by rw [show i + 1 + j = i + (j + 1) by omega]; exact h3⟩
      unfold OutsOk
      exact this
  | true :: ms, i, us, vs, e, l, h => by
    cases vs with
    | nil => cases l
    | cons v vs =>
      unfold outsAt at e
      split at e
      · rename_i d r e1 e2
        cases e
        obtain ⟨p, h1, h2, h3⟩ := h 0 rfl
        cases h1
        obtain ⟨g1, g2⟩ := ownV_some e1
        obtain ⟨u, u1, u2⟩ := E.at_ i d g1 (fun z => by rw [z] at g2; cases g2)
        rw [show i + 0 = i from rfl, u1] at h3
        cases h3
        obtain ⟨p', L', ep, oc, lp⟩ := u2.og g2
        cases ep
        refine ⟨(oc.move rd fun _ _ => rfl).oat (fun q hq => h2 q.1 q.2 (lp q hq)), g2, outs_ok E rd (ms := ms) (i := i + 1) (vs := vs) e2 (Nat.succ.inj l) fun j hj => ?_⟩
        obtain ⟨q, k1, k2, k3⟩ := h (j + 1) hj
        exact ⟨q, k1, by rw [show i + 1 + j = i + (j + 1) by omega]; exact k2, by rw [show i + 1 + j = i + (j + 1) by omega]; exact k3⟩
      · cases e
end
/-- a def of the text: its place, its form -/
structure DefOk (P : Program) (K : PySem.W.Frag) (mg : Str → Option Value) (T : Tb) (Pd : Nat → Option Def) (f : Nat) (x : Str) (st : Stmt) : Prop where
  ex : ∃ (a : Addr) (fd : FuncData) (ps : List Str) (d : Def), Pd f = some d ∧ Fun K x x st a fd ∧ FnScope d.names ps (defScope st) ∧ ps.length = d.modes.length ∧ T.modes f = d.modes ∧ chkSs T d.names (defScope st) d.modes d.body (defBody st) = true ∧ mg x = some (.ref a) ∧ Binds K fd ps []
section
variable {P : Program} {wd : World} {K : PySem.W.Frag} {mg : Str → Option Value} {base : Heap} {T : Tb} {CT : Ct} {Pd : Nat → Option Def} {w : Nat}
/-- a def whose body keeps the promise, errors or not -/
theorem okM {x qual : Str} {st : Stmt} {f : Addr} {fd : FuncData} {N ps : List Str} {k : Nat} {sp : Sp} (F : Fun K x qual st f fd) (S : FnScope N ps (defScope st)) (len : ∀ vs H Q E, sp vs H Q E → vs.length = ps.length)
    (hbody : ∀ (cdv : Value) (A : Around) (outer : List PySem.Env) (s : Shared) (H : Hp) (vs : List V) (Q : VK) (E : XK), RoomD k (A.deeper (PyProof.Rows.envOfC qual (defScope st) s.heap.objs.size f cdv)) → sp vs H Q E →
      ∃ t, PSs (cxOf (CXM CT P wd) P wd K mg base N qual (defScope st) f cdv A outer s H E) (defBody st) t ∧ t { nx := fun _ H' => Q .non H', rt := Q } (start N vs) H) : FnD P wd K mg base (CXM CT P wd) (k + 1) f fd ps sp := by
  obtain ⟨oc, od, kV, doc, pm, an, cdv, ct, osl, rfl, lk, hcd⟩ := F.ex
  refine fnD_of lk hcd S len fun A outer s H vs Q E hr hsp => ?_
  exact hbody cdv A outer s H vs Q E hr hsp
theorem tk_of {N : List Str} {qual : Str} {sc : Scope} {f : Addr} {cdv : Value} {A : Around} {outer : List PySem.Env} {s : Shared} {H : Hp} {E : XK} : Tk CT (cxOf (CXM CT P wd) P wd K mg base N qual sc f cdv A outer s H E) (fun cls d _ H => E cls d H) := by
  cases CT with
  | true => exact L2N.takes_of rfl rfl rfl rfl
  | false => exact L2.takes_of rfl rfl rfl rfl
theorem spF_len {ms : List Bool} {R : List SV → RF} {vs : List V} {H : Hp} {Q : VK} {E : XK} (h : spF K CT ms R vs H Q E) : vs.length = ms.length := by
  obtain ⟨lab, as, _, _, h1, h2, _⟩ := h
  rw [← aok_len h1, fit_len h2]
theorem fn_all (gl : ∀ g x d, T.gl g = some x → glD g = some d → ∃ u v, mg x = some u ∧ RelV v u ∧ Rep K (fun _ => none) d v) (bl : ∀ x ∈ bltNames, mg x = none) (xsF : T.xs = true → XFacts T.xc K mg) (trF : T.tr = true → CT = false) (hd : ∀ f x, T.fn f = some x → ∃ st, DefOk P K mg T Pd f x st) :
    ∀ (n f : Nat) (x : Str) (a : Addr) (fd : FuncData) (ps : List Str) (d : Def) (st : Stmt), Pd f = some d → Fun K x x st a fd → FnScope d.names ps (defScope st) → ps.length = d.modes.length → T.modes f = d.modes → chkSs T d.names (defScope st) d.modes d.body (defBody st) = true →
      FnD P wd K mg base (CXM CT P wd) n a fd ps (spF K CT (T.modes f) (sem Pd w n f)) := by
  intro n
  induction n with
  | zero =>
    intro f x a fd ps d st h1 h2 h3 h4 h5 h6
    have no : ∀ vs H Q E, ¬ spF K CT (T.modes f) (sem Pd w 0 f) vs H Q E := fun vs H Q E h => by
      obtain ⟨lab, as, _, _, _, _, _, h⟩ := h
      exact h
    exact ⟨fun vs H Q E h => (no vs H Q E h).elim, fun A outer s H args us vs Q E _ _ _ _ h => (no vs H Q E h).elim⟩
  | succ n ih =>
    intro f x a fd ps d st h1 h2 h3 h4 h5 h6
    refine okM h2 h3 (fun vs H Q E h => by rw [spF_len h, h5, h4]) fun cdv A outer s H vs Q E hr h => ?_
    obtain ⟨lab, as, k1, k2, k3, k4, k5, k6⟩ := h
    rw [h5] at k4 k5 k6
    have hlen : as.length = d.modes.length := fit_len k4
    have hvs : vs.length = d.modes.length := by rw [← aok_len k3, hlen]
    have C : Cok (cxOf (CXM CT P wd) P wd K mg base d.names x (defScope st) a cdv A outer s H E) T CT (sem Pd w n) d.names (defScope st) :=
      { nn := rfl, nd := h3.nd, calm := rfl, kf := h3.kind, room := by have := hr.un; show (A.deeper _).units + 200 < cLine; omega
        scr := fun x k e => ⟨fun _ => e, fun z => .inl (by rw [z] at e; exact e)⟩
        st := fun x _ => .inl rfl
        fn := fun f' x' hf' => by
          obtain ⟨st', a', fd', ps', d', g1, g2, g3, g4, g5, g6, g7, g8⟩ := hd f' x' hf'
          exact ⟨a', fd', ps', n, g7, ih f' x' a' fd' ps' d' st' g1 g2 g3 g4 g5 g6, hr, g2.kp, g8⟩
        gl := gl, bl := bl, xs := xsF, tr := trF }
    have po : PassesOwn (model P wd) (cxOf (CXM CT P wd) P wd K mg base d.names x (defScope st) a cdv A outer s H E).A (cxOf (CXM CT P wd) P wd K mg base d.names x (defScope st) a cdv A outer s H E).env (cxOf (CXM CT P wd) P wd K mg base d.names x (defScope st) a cdv A outer s H E).xe := passes_of rfl
    obtain ⟨t, p1, v1⟩ := sndSs (w := w) C ⟨rfl, rfl, rfl⟩ po d.body (defBody st) h6 _ tk_of
    refine ⟨t, p1, ?_⟩
    -- the promise of the tree
    have hsem : sem Pd w (n + 1) f as = (runK w d as).den (sem Pd w n) := by
      show (match Pd f with
        | some d => (runK w d as).den (sem Pd w n)
        | none => .stuck) = _
      rw [h1]
    rw [hsem] at k6
    let Ψ : RF → Prop := fun r => match r with
      | .ok r us => ∀ v H', Stp (fun i => decide (d.modes[i]? = some true)) lab H H' → LabOk lab H' → TupFree lab H' → Rep K (FH H' lab) r v → OutsOk K H' lab d.modes 0 us vs → Q v H'
      | .exc c pl => ∀ cls dx H', Stp (fun i => decide (d.modes[i]? = some true)) lab H H' → XOk K CT c pl cls dx H' lab → E cls dx H'
      | .stuck => False
    have hs : ¬ Ψ .stuck := fun z => z
    have k6 : Ψ ((runK w d as).den (sem Pd w n)) := k6
    obtain ⟨hfit, k6⟩ := den_unK hs k6
    have hnm : d.modes.length ≤ d.names.length := by
      have : fitD d as = true := by
        cases z : fitD d as with
        | true => rfl
        | false => rw [z] at hfit; cases hfit
      exact dec (and2 this).2
    have E0 : EnvOk K (start d.names vs) H lab (d.init as) := by
      refine ⟨k1, k2, ?_, fun i sv e n => ?_⟩
      · unfold L2.start Def.init
        rw [List.length_append, List.length_append, List.length_map, List.length_replicate, List.length_replicate, hvs, hlen]
      · unfold Def.init at e
        by_cases hi : i < as.length
        · rw [List.getElem?_append_left hi] at e
          obtain ⟨v, g1, g2⟩ := aok_at k3 i sv e
          refine ⟨v, ?_, by rw [Nat.zero_add] at g2; exact g2⟩
          unfold L2.start
          rw [List.getElem?_append_left (by rw [List.length_map, hvs, ← hlen]; exact hi), List.getElem?_map, g1]
          rfl
        · rw [List.getElem?_append_right (by omega)] at e
          rw [List.getElem?_replicate] at e
          split at e
          · cases e; exact (n rfl).elim
          · cases e
    have B0 : Bs d.modes lab H (start d.names vs) lab H (start d.names vs) := ⟨k1, k5, Stp.refl _ _ _, fun _ _ => rfl, fun a i j e _ => k1 a _ e, fun _ _ => rfl⟩
    have fin : ∀ (σ' : St) (H' : Hp) (lab' : Lab) (ρ' : Env) (r : D) (v : V), Bs d.modes lab H (start d.names vs) lab' H' σ' → EnvOk K σ' H' lab' ρ' → Rep K (FH H' lab') r v → Ψ ((KS.T.opt (outsAt ρ' d.modes 0) fun us => KS.T.ok r us).den (sem Pd w n)) → Q v H' := fun σ' H' lab' ρ' r v b E' rp hp => by
      obtain ⟨us, hus, hp⟩ := den_optK hs hp
      have rd : RdLe (FH H' lab') (FH H' lab) := rd_of fun a e n => by
        refine ⟨?_, rfl⟩
        cases z : H a with
        | none => exact lab_new k1 z
        | some o => rw [← b.ext a (by rw [z]; exact fun z => nomatch z)]; exact e
      have tf : TupFree lab H' := fun a l xs e rr => E'.tf a l xs (by rw [b.ext a (k1 a l e)]; exact e) rr
      have hp : ∀ v H', Stp (fun i => decide (d.modes[i]? = some true)) lab H H' → LabOk lab H' → TupFree lab H' → Rep K (FH H' lab) r v → OutsOk K H' lab d.modes 0 us vs → Q v H' := hp
      refine hp v H' b.stp (b.stp.lab k1) tf (Rep.mono rd _ _ rp) (outs_ok E' rd hus hvs fun j hj => ?_)
      obtain ⟨sv, g1, g2⟩ := fit_own k4 j hj
      obtain ⟨u, u1, u2⟩ := aok_at k3 j sv g1
      obtain ⟨q, _, rfl, _, _⟩ := u2.og g2
      refine ⟨q, u1, fun a j' ea => ?_, ?_⟩
      · rw [Nat.zero_add] at ea ⊢
        rw [← b.ext a (b.old a j j' ea hj)]
        exact ea
      rw [Nat.zero_add, b.par j hj]
      unfold L2.start
      rw [List.getElem?_append_left (by
        rw [List.length_map]
        rcases Nat.lt_or_ge j vs.length with z | z
        · exact z
        · rw [List.getElem?_eq_none z] at u1; cases u1), List.getElem?_map, u1]
      rfl
    refine v1 (Bs d.modes lab H (start d.names vs)) _ H lab (d.init as) (finK d.modes) _ Ψ Bs.clo hs B0 E0 ⟨fun σ' H' lab' ρ' b E' hp => fin σ' H' lab' ρ' .non .non b E' rep_non hp, fun σ' H' lab' ρ' b E' hp => (hs hp).elim, fun σ' H' lab' ρ' b E' hp => (hs hp).elim, fun σ' H' lab' ρ' v r b E' rp hp => fin σ' H' lab' ρ' r v b E' rp hp⟩
      (fun c pl cls dx σ' H' lab' b xo hp => ?_) k6
    have hp : ∀ cls dx H', Stp (fun i => decide (d.modes[i]? = some true)) lab H H' → XOk K CT c pl cls dx H' lab → E cls dx H' := hp
    exact hp cls dx H' b.stp xo.any
/-! ### the end -/
theorem no_cx {H : Hp} {s s' : Shared} {e : Value} (h : CXM CT P wd [] H s (fun _ _ _ => False) e s') : False := by
  cases CT <;> (obtain ⟨_, _, _, _, _, _, _, _, _, _, _, _, z⟩ := h; exact z)
theorem law_sp {H : Hp} {a : Addr} {ns : List Int} {R : List SV → RF} (h : SqL K H a (ns.map V.int)) (t : R [.dat (.scr ns)] = .ok (.bl true) []) : spF K CT [false] R [.ref a] H (fun v _ => v = .bl true) fun _ _ _ => False := by
  refine ⟨fun _ => none, [.dat (.scr ns)], fun _ _ e => (nomatch e), fun _ _ _ e => (nomatch e), ⟨?_, trivial⟩, rfl, fun _ _ _ e => (nomatch e), ?_⟩
  · show Rep K (FH H fun _ => none) (.scr ns) (.ref a)
    rw [Rep]
    exact ⟨a, rfl, h⟩
  · rw [t]
    show ∀ v H', _ → _ → _ → _ → _ → _
    intro v H' _ _ _ r _
    rw [Rep] at r
    exact r
end
end KS

set_option Elab.async false
set_option linter.all false
set_option maxRecDepth 100000
/-! XMk: what the top's facts are worth. -/
namespace KS
open PySem L2
def glW : Nat → List Nat
  | 1 => [1]
  | 2 => [2]
  | 3 => [6, 7, 8, 9, 10, 11, 12]
  | _ => []
/-- a tuple of words of the modules' own -/
def TupC (o : Obj) (g : Nat) : Prop := ∃ (its : Array Value) (n : Nat), o.cls = .type "tuple" ∧ o.data = .seq its n ∧ its.size ≤ 100 ∧ Vals ((glW g).map fun s => V.str (wd s)) its.toList
theorem rep_words {K : PySem.W.Frag} {F : Hp} : ∀ {l : List Nat}, (∀ s, s ∈ l → s < words.length) → RepAll K F (l.map D.str) (l.map fun s => V.str (wd s))
  | [], _ => RepAll.nil
  | s :: l, h => RepAll.cons (by rw [Rep]; exact ⟨h s (List.mem_cons_self ..), rfl⟩) (rep_words fun t ht => h t (List.mem_cons_of_mem _ ht))
theorem tup_c {K : PySem.W.Frag} {u : Addr} {o : Obj} {g : Nat} {d : D} (hl : K.lookup u = some o) (h : TupC o g) (hg : glD g = some d) (h0 : g ≠ 0) : Rep K (fun _ => none) d (.ref u) := by
  obtain ⟨its, n, h1, h2, h3, h4⟩ := h
  have hd : d = .tup ((glW g).map D.str) := by
    unfold glD at hg
    split at hg
    · exact (h0 rfl).elim
    · cases hg; rfl
    · cases hg; rfl
    · cases hg; rfl
    · cases hg
  have hw : ∀ s, s ∈ glW g → s < words.length := by
    have : ∀ g, g < 4 → ∀ s, s ∈ glW g → s < words.length := by decide +kernel
    rcases Nat.lt_or_ge g 4 with q | q
    · exact this g q
    · intro s hs
      unfold glW at hs
      split at hs <;> first | omega | exact (nomatch hs)
  rw [hd, Rep]
  exact ⟨u, _, rfl, .inr ⟨o, its, n, hl, h1, h2, by rw [sizeLine_eq]; omega, h4⟩, rep_words hw⟩
theorem kit_sub {K : PySem.W.Frag} {t : Value} {C : Addr} {b : Bool} (hd : PySem.W.hasDictIn K C = true) (ht : PySem.W.typeIn K (.ref C) = some (.type "type")) (h : PySem.W.subIn K t (.ref C) = some b) : PySem.W.kitCls K t (.ref C) = some b := by
  obtain ⟨cd, hc, _⟩ := PySem.W.any_some hd
  show (if ((PySem.W.clsIn K C).isSome && PySem.W.typeIn K (.ref C) == some (.type "type")) = true then PySem.W.subIn K t (.ref C) else none) = some b
  rw [if_pos (by rw [hc, ht]; rfl)]
  exact h
theorem kit_ve {K : PySem.W.Frag} {t : Value} {b : Bool} (h : PySem.W.subIn K t (.type "ValueError") = some b) : PySem.W.kitCls K t (.type "ValueError") = some b := by
  show (if PySem.W.kitMeta "ValueError" = true then PySem.W.subIn K t (.type "ValueError") else none) = some b
  rw [if_pos (by decide +kernel)]
  exact h
end KS

set_option Elab.async false
set_option linter.all false
set_option maxRecDepth 100000
/-! Defs: the defs of the texts, by their numbers (printed by mk.py). -/
namespace KS
open PySem L2
/-- filled: kind 0, told 1, part 2 -/
def d0 : Def where
  names := ["kind", "told", "part"]
  modes := [false, false]
  body := (.cons (.if_ (.bin .eq (.ix (.var 0) (.int 0)) (.glob 0)) (.cons (.ret (.get (.var 1) (.ix (.var 0) (.int 1)) (.var 0))) .nil) .nil) (.cons (.ret (.bin .add (.tup (.cons (.ix (.var 0) (.int 0)) .nil)) (.bif .tuple (.cons (.comp (.call 0 (.cons (.var 2) (.cons (.var 1) .nil))) [2] (.seq (.slc (.var 0) (.int 1) .non)) (.bl true)) .nil)))) .nil))
/-- _law_cell: _law_script 0, _law_k 1 -/
def d1 : Def where
  names := ["_law_script", "_law_k"]
  modes := [false, false]
  body := (.cons (.if_ (.var 0) (.cons (.ret (.ix (.var 0) (.bin .mod (.var 1) (.bif .len (.cons (.var 0) .nil))))) .nil) .nil) (.cons (.ret (.int 0)) .nil))
/-- _law_mix: _law_script 0, _law_k 1, _law_number 2 -/
def d2 : Def where
  names := ["_law_script", "_law_k", "_law_number"]
  modes := [false, false]
  body := (.cons (.asg 2 (.bin .mod (.bin .add (.call 1 (.cons (.var 0) (.cons (.var 1) .nil))) (.bin .mul (.int 104729) (.bin .add (.var 1) (.int 1)))) (.int 4294967291))) (.cons (.asg 2 (.bin .mod (.bin .mul (.var 2) (.int 48271)) (.int 4294967279))) (.cons (.ret (.bin .mod (.bin .add (.bin .mul (.bin .fdiv (.var 2) (.int 64)) (.int 69621)) (.var 2)) (.int 4294967231))) .nil)))
/-- _law_whole: _law_found 0 -/
def d3 : Def where
  names := ["_law_found"]
  modes := [false]
  body := (.cons (.ret (.and_ (.isi (.var 0) .int) (.not_ (.isi (.var 0) .bool)))) .nil)
/-- _law_gap: _law_number 0 -/
def d4 : Def where
  names := ["_law_number"]
  modes := [false]
  body := (.cons (.ret (.tup (.cons (.str 0) (.cons (.ix (.lst (.cons (.int 0) (.cons (.int 1) (.cons (.int 2) (.cons (.int 3) (.cons (.int 7) (.cons (.bin .pow (.int 10) (.int 30)) .nil))))))) (.bin .mod (.var 0) (.int 6))) .nil)))) .nil)
/-- _law_kind: _law_script 0, _law_k 1, _law_deep 2, _law_number 3, _law_word 4, _law_some 5 -/
def d5 : Def where
  names := ["_law_script", "_law_k", "_law_deep", "_law_number", "_law_word", "_law_some"]
  modes := [false, false, false]
  body := (.cons (.asg 3 (.call 2 (.cons (.var 0) (.cons (.var 1) .nil)))) (.cons (.if_ (.or_ (.bin .eq (.var 2) (.int 0)) (.bin .lt (.bin .mod (.var 3) (.int 7)) (.int 2))) (.cons (.asg 5 (.lst (.cons (.tup (.cons (.str 1) .nil)) (.cons (.tup (.cons (.str 2) .nil)) (.cons (.call 4 (.cons (.bin .fdiv (.var 3) (.int 28)) .nil)) (.cons (.call 4 (.cons (.bin .fdiv (.var 3) (.int 28)) .nil)) .nil)))))) (.cons (.ret (.ix (.var 5) (.bin .mod (.bin .fdiv (.var 3) (.int 7)) (.int 4)))) .nil)) .nil) (.cons (.if_ (.bin .eq (.bin .mod (.var 3) (.int 7)) (.int 2)) (.cons (.ret (.tup (.cons (.str 5) (.cons (.call 5 (.cons (.var 0) (.cons (.bin .add (.bin .mul (.int 2) (.var 1)) (.int 1)) (.cons (.bin .sub (.var 2) (.int 1)) .nil)))) .nil)))) .nil) .nil) (.cons (.asg 4 (.ix (.lst (.cons (.str 3) (.cons (.str 4) .nil))) (.bin .mod (.var 3) (.int 2)))) (.cons (.ret (.tup (.cons (.var 4) (.cons (.call 5 (.cons (.var 0) (.cons (.bin .add (.bin .mul (.int 2) (.var 1)) (.int 1)) (.cons (.bin .sub (.var 2) (.int 1)) .nil)))) (.cons (.call 5 (.cons (.var 0) (.cons (.bin .add (.bin .mul (.int 2) (.var 1)) (.int 2)) (.cons (.bin .sub (.var 2) (.int 1)) .nil)))) .nil))))) .nil)))))
/-- _law_filled: _law_kind_here 0, _law_told 1, _law_found 2, _law_part 3 -/
def d6 : Def where
  names := ["_law_kind_here", "_law_told", "_law_found", "_law_part"]
  modes := [false, false]
  body := (.cons (.if_ (.bin .eq (.ix (.var 0) (.int 0)) (.str 0)) (.cons (.ret (.get (.var 1) (.ix (.var 0) (.int 1)) (.var 0))) .nil) .nil) (.cons (.asgO 2 (.lst (.cons (.ix (.var 0) (.int 0)) .nil))) (.cons (.for_ [3] (.seq (.slc (.var 0) (.int 1) .non)) (.cons (.app (2, none) (.call 6 (.cons (.var 3) (.cons (.var 1) .nil)))) .nil)) (.cons (.ret (.bif .tuple (.cons (.var 2) .nil))) .nil))))
/-- _law_gaps: _law_kind_here 0, _law_found 1, _law_part 2, _law_number 3 -/
def d7 : Def where
  names := ["_law_kind_here", "_law_found", "_law_part", "_law_number"]
  modes := [false]
  body := (.cons (.if_ (.bin .eq (.ix (.var 0) (.int 0)) (.str 0)) (.cons (.ret (.lst (.cons (.ix (.var 0) (.int 1)) .nil))) .nil) .nil) (.cons (.asg 1 (.lst .nil)) (.cons (.for_ [2] (.seq (.slc (.var 0) (.int 1) .non)) (.cons (.asg 1 (.bin .add (.var 1) (.comp (.var 3) [3] (.seq (.call 7 (.cons (.var 2) .nil))) (.bin .notin (.var 3) (.var 1))))) .nil)) (.cons (.ret (.var 1)) .nil))))
/-- _law_is_kind: _law_found 0, _law_size 1, _law_part 2 -/
def d8 : Def where
  names := ["_law_found", "_law_size", "_law_part"]
  modes := [false]
  body := (.cons (.if_ (.or_ (.not_ (.isi (.var 0) .tuple)) (.or_ (.not_ (.var 0)) (.not_ (.isi (.ix (.var 0) (.int 0)) .str)))) (.cons (.ret (.bl false)) .nil) .nil) (.cons (.if_ (.bin .eq (.ix (.var 0) (.int 0)) (.str 0)) (.cons (.ret (.and_ (.bin .eq (.bif .len (.cons (.var 0) .nil)) (.int 2)) (.and_ (.call 3 (.cons (.ix (.var 0) (.int 1)) .nil)) (.bin .ge (.ix (.var 0) (.int 1)) (.int 0))))) .nil) .nil) (.cons (.asg 1 (.get (.dic [1, 2, 3, 4, 5] (.cons (.int 1) (.cons (.int 1) (.cons (.int 3) (.cons (.int 3) (.cons (.int 2) .nil)))))) (.ix (.var 0) (.int 0)) (.int 0))) (.cons (.ret (.and_ (.bin .eq (.bif .len (.cons (.var 0) .nil)) (.var 1)) (.bif .all (.cons (.comp (.call 8 (.cons (.var 2) .nil)) [2] (.seq (.slc (.var 0) (.int 1) .non)) (.bl true)) .nil)))) .nil))))
/-- law: _law_script 0, _law_kind_here 1, _law_told 2, _law_k 3, _law_handed 4, _law_found 5 -/
def d9 : Def where
  names := ["_law_script", "_law_kind_here", "_law_told", "_law_k", "_law_handed", "_law_found"]
  modes := [false]
  body := (.cons (.asg 1 (.call 5 (.cons (.var 0) (.cons (.int 0) (.cons (.int 4) .nil))))) (.cons (.asgO 2 (.dic [] .nil)) (.cons (.for_ [3] (.rng1 (.bin .mod (.call 2 (.cons (.var 0) (.cons (.int 40) .nil))) (.int 6))) (.cons (.putD (2, none) (.ix (.call 4 (.cons (.call 2 (.cons (.var 0) (.cons (.bin .add (.int 41) (.var 3)) .nil))) .nil)) (.int 1)) (.call 5 (.cons (.var 0) (.cons (.bin .add (.int 50) (.var 3)) (.cons (.int 2) .nil))))) .nil)) (.cons (.asg 4 (.bif .dict (.cons (.var 2) .nil))) (.cons (.asg 5 (.call 0 (.cons (.var 1) (.cons (.var 4) .nil)))) (.cons (.if_ (.or_ (.not_ (.call 8 (.cons (.var 5) .nil))) (.or_ (.bin .ne (.var 5) (.call 6 (.cons (.var 1) (.cons (.var 2) .nil)))) (.bin .ne (.var 4) (.var 2)))) (.cons (.ret (.bl false)) .nil) .nil) (.cons (.ret (.and_ (.bin .eq (.call 0 (.cons (.var 1) (.cons (.dic [] .nil) .nil))) (.var 1)) (.bin .eq (.call 0 (.cons (.var 5) (.cons (.dic [] .nil) .nil))) (.var 5)))) .nil)))))))
/-- gaps: kind 0, found 1, part 2, number 3 -/
def d10 : Def where
  names := ["kind", "found", "part", "number"]
  modes := [false]
  body := (.cons (.if_ (.bin .eq (.ix (.var 0) (.int 0)) (.glob 0)) (.cons (.ret (.lst (.cons (.ix (.var 0) (.int 1)) .nil))) .nil) .nil) (.cons (.asgO 1 (.lst .nil)) (.cons (.for_ [2] (.seq (.slc (.var 0) (.int 1) .non)) (.cons (.extd (1, none) (.comp (.var 3) [3] (.seq (.call 10 (.cons (.var 2) .nil))) (.bin .notin (.var 3) (.var 1)))) .nil)) (.cons (.retO 1) .nil))))
/-- plain: kind 0, told 1, number 2 -/
def d11 : Def where
  names := ["kind", "told", "number"]
  modes := [false]
  body := (.cons (.asgO 1 (.dic [] .nil)) (.cons (.for_ [2] (.seq (.call 10 (.cons (.var 0) .nil))) (.cons (.putD (1, none) (.var 2) (.tup (.cons (.glob 0) (.cons (.bif .len (.cons (.var 1) .nil)) .nil)))) .nil)) (.cons (.ret (.call 0 (.cons (.var 0) (.cons (.var 1) .nil)))) .nil)))
/-- _law_pairs: _law_wide 0, _law_kind_here 1, _law_found 2, _law_k 3, _law_more 4 -/
def d12 : Def where
  names := ["_law_wide", "_law_kind_here", "_law_found", "_law_k", "_law_more"]
  modes := [false, false]
  body := (.cons (.if_ (.bin .eq (.ix (.var 0) (.int 0)) (.str 0)) (.cons (.ret (.lst (.cons (.tup (.cons (.ix (.var 0) (.int 1)) (.cons (.var 1) .nil))) .nil))) .nil) .nil) (.cons (.if_ (.bin .ne (.ix (.var 0) (.int 0)) (.ix (.var 1) (.int 0))) (.cons (.ret .non) .nil) .nil) (.cons (.asg 2 (.lst .nil)) (.cons (.for_ [3] (.rng2 (.int 1) (.bif .len (.cons (.var 0) .nil))) (.cons (.asg 4 (.call 12 (.cons (.ix (.var 0) (.var 3)) (.cons (.ix (.var 1) (.var 3)) .nil)))) (.cons (.if_ (.bin .isx (.var 4) .non) (.cons (.ret .non) .nil) .nil) (.cons (.asg 2 (.bin .add (.var 2) (.var 4))) .nil)))) (.cons (.ret (.var 2)) .nil)))))
/-- _law_wider: _law_wide 0, _law_kind_here 1, _law_pairs_here 2, _law_told 3, _law_gap_here 4, _law_part 5 -/
def d13 : Def where
  names := ["_law_wide", "_law_kind_here", "_law_pairs_here", "_law_told", "_law_gap_here", "_law_part"]
  modes := [false, false]
  body := (.cons (.asg 2 (.call 12 (.cons (.var 0) (.cons (.var 1) .nil)))) (.cons (.if_ (.bin .isx (.var 2) .non) (.cons (.ret (.bl false)) .nil) .nil) (.cons (.asg 3 (.bif .dict (.cons (.var 2) .nil))) (.cons (.ret (.bif .all (.cons (.comp (.bin .eq (.dx (.var 3) (.var 4)) (.var 5)) [4, 5] (.seq (.var 2)) (.bl true)) .nil))) .nil))))
/-- law: _law_script 0, _law_kind_here 1, _law_found 2 -/
def d14 : Def where
  names := ["_law_script", "_law_kind_here", "_law_found"]
  modes := [false]
  body := (.cons (.asg 1 (.call 5 (.cons (.var 0) (.cons (.int 0) (.cons (.int 4) .nil))))) (.cons (.asg 2 (.call 11 (.cons (.var 1) .nil))) (.cons (.if_ (.or_ (.not_ (.call 8 (.cons (.var 2) .nil))) (.bin .ne (.call 7 (.cons (.var 2) .nil)) (.bif .lrange (.cons (.bif .len (.cons (.call 7 (.cons (.var 1) .nil)) .nil)) .nil)))) (.cons (.ret (.bl false)) .nil) .nil) (.cons (.ret (.and_ (.call 13 (.cons (.var 2) (.cons (.var 1) .nil))) (.and_ (.call 13 (.cons (.var 1) (.cons (.var 2) .nil))) (.bin .eq (.call 11 (.cons (.var 2) .nil)) (.var 2))))) .nil))))
/-- fits: wide 0, kind 1, told 2, k 3 -/
def d15 : Def where
  names := ["wide", "kind", "told", "k"]
  modes := [false, false, true]
  body := (.cons (.if_ (.bin .eq (.ix (.var 0) (.int 0)) (.glob 0)) (.cons (.ret (.bin .eq (.setd (2, none) (.ix (.var 0) (.int 1)) (.var 1)) (.var 1))) .nil) .nil) (.cons (.if_ (.bin .ne (.ix (.var 0) (.int 0)) (.ix (.var 1) (.int 0))) (.cons (.ret (.bl false)) .nil) .nil) (.cons (.ret (.bif .all (.cons (.comp (.call 15 (.cons (.ix (.var 0) (.var 3)) (.cons (.ix (.var 1) (.var 3)) (.cons (.mv 2) .nil)))) [3] (.rng2 (.int 1) (.bif .len (.cons (.var 0) .nil))) (.bl true)) .nil))) .nil)))
/-- is_wider: wide 0, kind 1 -/
def d16 : Def where
  names := ["wide", "kind"]
  modes := [false, false]
  body := (.cons (.ret (.call 15 (.cons (.var 0) (.cons (.var 1) (.cons .mf .nil))))) .nil)
/-- _law_changed: _law_script 0, _law_k 1, _law_kind_here 2, _law_number 3, _law_at 4 -/
def d17 : Def where
  names := ["_law_script", "_law_k", "_law_kind_here", "_law_number", "_law_at"]
  modes := [false, false, false]
  body := (.cons (.asg 3 (.call 2 (.cons (.var 0) (.cons (.var 1) .nil)))) (.cons (.if_ (.or_ (.bin .eq (.bif .len (.cons (.var 2) .nil)) (.int 1)) (.or_ (.bin .eq (.ix (.var 2) (.int 0)) (.str 0)) (.bin .eq (.bin .mod (.var 3) (.int 4)) (.int 0)))) (.cons (.ret (.call 5 (.cons (.var 0) (.cons (.bin .add (.var 1) (.int 1)) (.cons (.int 1) .nil))))) .nil) .nil) (.cons (.asg 4 (.bin .add (.int 1) (.bin .mod (.bin .fdiv (.var 3) (.int 4)) (.bin .sub (.bif .len (.cons (.var 2) .nil)) (.int 1))))) (.cons (.ret (.bin .add (.bin .add (.slc (.var 2) .non (.var 4)) (.tup (.cons (.call 17 (.cons (.var 0) (.cons (.bin .add (.bin .mul (.int 2) (.var 1)) (.int 1)) (.cons (.ix (.var 2) (.var 4)) .nil)))) .nil))) (.slc (.var 2) (.bin .add (.var 4) (.int 1)) .non))) .nil))))
/-- law: _law_script 0, _law_one 1, _law_told 2, _law_gap_here 3, _law_other 4, _law_pair 5, _law_found 6 -/
def d18 : Def where
  names := ["_law_script", "_law_one", "_law_told", "_law_gap_here", "_law_other", "_law_pair", "_law_found"]
  modes := [false]
  body := (.cons (.asg 1 (.call 5 (.cons (.var 0) (.cons (.int 0) (.cons (.int 3) .nil))))) (.cons (.asgO 2 (.dic [] .nil)) (.cons (.for_ [3] (.seq (.call 7 (.cons (.var 1) .nil))) (.cons (.putD (2, none) (.var 3) (.call 5 (.cons (.var 0) (.cons (.bin .add (.int 40) (.bif .len (.cons (.var 2) .nil))) (.cons (.int 2) .nil))))) .nil)) (.cons (.asg 4 (.call 6 (.cons (.var 1) (.cons (.var 2) .nil)))) (.cons (.if_ (.or_ (.bin .isnx (.call 16 (.cons (.var 1) (.cons (.var 4) .nil))) (.bl true)) (.bin .isnx (.call 16 (.cons (.var 1) (.cons (.var 1) .nil))) (.bl true))) (.cons (.ret (.bl false)) .nil) .nil) (.cons (.if_ (.bin .eq (.bin .mod (.call 2 (.cons (.var 0) (.cons (.int 60) .nil))) (.int 3)) (.int 0)) (.cons (.asg 4 (.call 5 (.cons (.var 0) (.cons (.int 61) (.cons (.int 3) .nil))))) .nil) (.cons (.if_ (.bin .eq (.bin .mod (.call 2 (.cons (.var 0) (.cons (.int 60) .nil))) (.int 3)) (.int 1)) (.cons (.asg 4 (.call 17 (.cons (.var 0) (.cons (.int 30) (.cons (.var 4) .nil))))) .nil) .nil) .nil)) (.cons (.for_ [5] (.seq (.lst (.cons (.tup (.cons (.var 1) (.cons (.var 4) .nil))) (.cons (.tup (.cons (.var 4) (.cons (.var 1) .nil))) .nil)))) (.cons (.asg 6 (.call 16 (.cons (.ix (.var 5) (.int 0)) (.cons (.ix (.var 5) (.int 1)) .nil)))) (.cons (.if_ (.or_ (.not_ (.isi (.var 6) .bool)) (.bin .ne (.var 6) (.call 13 (.cons (.ix (.var 5) (.int 0)) (.cons (.ix (.var 5) (.int 1)) .nil))))) (.cons (.ret (.bl false)) .nil) .nil) .nil))) (.cons (.ret (.bl true)) .nil))))))))
/-- joined: one 0, other 1, told 2, left 3, pair 4, first 5, second 6, k 7 -/
def d19 : Def where
  names := ["one", "other", "told", "left", "pair", "first", "second", "k"]
  modes := [false, false]
  body := (.cons (.asg 2 (.dic [] .nil)) (.cons (.asgO 3 (.lst (.cons (.tup (.cons (.var 0) (.cons (.var 1) .nil))) .nil))) (.cons (.while_ (.var 3) (.cons (.asg 4 (.pop (3, none))) (.cons (.asg 5 (.call 0 (.cons (.ix (.var 4) (.int 0)) (.cons (.var 2) .nil)))) (.cons (.asg 6 (.call 0 (.cons (.ix (.var 4) (.int 1)) (.cons (.var 2) .nil)))) (.cons (.if_ (.bin .eq (.ix (.var 6) (.int 0)) (.glob 0)) (.cons (.asgT [5, 6] (.tup (.cons (.var 6) (.cons (.var 5) .nil)))) .nil) .nil) (.cons (.if_ (.bin .eq (.var 5) (.var 6)) (.cons .cont .nil) .nil) (.cons (.if_ (.bin .eq (.ix (.var 5) (.int 0)) (.glob 0)) (.cons (.asg 2 (.call 20 (.cons (.var 2) (.cons (.ix (.var 5) (.int 1)) (.cons (.var 6) .nil))))) .nil) (.cons (.if_ (.bin .ne (.ix (.var 5) (.int 0)) (.ix (.var 6) (.int 0))) (.cons (.raise_ 1 .nil) .nil) (.cons (.extd (3, none) (.comp (.tup (.cons (.ix (.var 5) (.var 7)) (.cons (.ix (.var 6) (.var 7)) .nil))) [7] (.rng2 (.int 1) (.bif .len (.cons (.var 5) .nil))) (.bl true))) .nil)) .nil)) .nil))))))) (.cons (.ret (.var 2)) .nil))))
/-- grown: told 0, number 1, kind 2, found 3, one 4 -/
def d20 : Def where
  names := ["told", "number", "kind", "found", "one"]
  modes := [false, false, false]
  body := (.cons (.if_ (.bin .isin (.var 1) (.call 10 (.cons (.var 2) .nil))) (.cons (.raise_ 1 .nil) .nil) .nil) (.cons (.asgO 3 (.dic [] .nil)) (.cons (.forD [4] 0 (.cons (.putD (3, none) (.var 4) (.call 0 (.cons (.dx (.var 0) (.var 4)) (.cons (.dk1 (.var 1) (.var 2)) .nil)))) .nil)) (.cons (.putD (3, none) (.var 1) (.var 2)) (.cons (.retO 3) .nil)))))
/-- _law_filled: _law_kind_here 0, _law_told_here 1, _law_found 2, _law_part 3 -/
def d21 : Def where
  names := ["_law_kind_here", "_law_told_here", "_law_found", "_law_part"]
  modes := [false, false]
  body := (.cons (.if_ (.bin .eq (.ix (.var 0) (.int 0)) (.str 0)) (.cons (.ret (.get (.var 1) (.ix (.var 0) (.int 1)) (.var 0))) .nil) .nil) (.cons (.asgO 2 (.lst (.cons (.ix (.var 0) (.int 0)) .nil))) (.cons (.for_ [3] (.seq (.slc (.var 0) (.int 1) .non)) (.cons (.app (2, none) (.call 21 (.cons (.var 3) (.cons (.var 1) .nil)))) .nil)) (.cons (.ret (.bif .tuple (.cons (.var 2) .nil))) .nil))))
/-- _law_wider: _law_wide 0, _law_kind_here 1, _law_pairs_here 2, _law_told_here 3, _law_gap_here 4, _law_part 5 -/
def d22 : Def where
  names := ["_law_wide", "_law_kind_here", "_law_pairs_here", "_law_told_here", "_law_gap_here", "_law_part"]
  modes := [false, false]
  body := (.cons (.asg 2 (.call 12 (.cons (.var 0) (.cons (.var 1) .nil)))) (.cons (.if_ (.bin .isx (.var 2) .non) (.cons (.ret (.bl false)) .nil) .nil) (.cons (.asg 3 (.bif .dict (.cons (.var 2) .nil))) (.cons (.ret (.bif .all (.cons (.comp (.bin .eq (.dx (.var 3) (.var 4)) (.var 5)) [4, 5] (.seq (.var 2)) (.bl true)) .nil))) .nil))))
/-- _law_told: _law_one 0, _law_other 1, _law_found 2, _law_kept 3, e 4, _law_good 5 -/
def d23 : Def where
  names := ["_law_one", "_law_other", "_law_found", "_law_kept", "e", "_law_good"]
  modes := [false, false]
  body := (.cons (.asg 2 .non) (.cons (.asg 3 .non) (.cons (.tryE 2 (.call 19 (.cons (.var 0) (.cons (.var 1) .nil))) 0 (.keep 4 3)) (.cons (.if_ (.bin .isnx (.var 3) .non) (.cons (.asg 5 (.and_ (.isi (.var 3) (.exc [1])) (.and_ (.isi (.var 3) (.exc [5])) (.not_ (.isi (.var 3) (.exc [2, 4])))))) (.cons (.ret (.ife (.var 5) (.str 27) (.str 28))) .nil)) .nil) (.cons (.ret (.var 2)) .nil)))))
/-- _law_joins: _law_found 0, _law_one 1, _law_other 2, _law_number 3, _law_gap_here 4 -/
def d24 : Def where
  names := ["_law_found", "_law_one", "_law_other", "_law_number", "_law_gap_here"]
  modes := [false, false, false]
  body := (.cons (.if_ (.or_ (.not_ (.isi (.var 0) .dict)) (.not_ (.bif .all (.cons (.asDat 0 (.comp (.call 3 (.cons (.var 3) .nil)) [3] (.keys (.var 0)) (.bl true))) .nil)))) (.cons (.ret (.bl false)) .nil) .nil) (.cons (.forD [3] 0 (.cons (.if_ (.or_ (.not_ (.call 8 (.cons (.dx (.var 0) (.var 3)) .nil))) (.bin .notin (.var 3) (.bin .add (.call 7 (.cons (.var 1) .nil)) (.call 7 (.cons (.var 2) .nil))))) (.cons (.ret (.bl false)) .nil) .nil) (.cons (.if_ (.bif .any (.cons (.comp (.bin .isin (.var 4) (.var 0)) [4] (.seq (.call 7 (.cons (.dx (.var 0) (.var 3)) .nil))) (.bl true)) .nil)) (.cons (.ret (.bl false)) .nil) .nil) .nil))) (.cons (.ret (.bin .eq (.call 21 (.cons (.var 1) (.cons (.var 0) .nil))) (.call 21 (.cons (.var 2) (.cons (.var 0) .nil))))) .nil)))
/-- _law_loosened: _law_script 0, _law_k 1, _law_kind_here 2, _law_told_here 3, _law_number 4, _law_found 5, _law_j 6, _law_same 7, _law_gap_here 8, _law_part 9 -/
def d25 : Def where
  names := ["_law_script", "_law_k", "_law_kind_here", "_law_told_here", "_law_number", "_law_found", "_law_j", "_law_same", "_law_gap_here", "_law_part"]
  modes := [false, false, false, true]
  body := (.cons (.asg 4 (.call 2 (.cons (.var 0) (.cons (.var 1) .nil)))) (.cons (.if_ (.bin .eq (.bin .mod (.var 4) (.int 3)) (.int 0)) (.cons (.asg 7 (.asDat 3 (.comp (.var 8) [8] (.keys (.var 3)) (.bin .eq (.dx (.var 3) (.var 8)) (.var 2))))) (.cons (.asg 8 (.bin .add (.int 100) (.bif .len (.cons (.var 3) .nil)))) (.cons (.if_ (.and_ (.var 7) (.bin .gt (.bin .mod (.bin .fdiv (.var 4) (.int 3)) (.int 3)) (.int 0))) (.cons (.asg 8 (.ix (.var 7) (.bin .mod (.bin .fdiv (.var 4) (.int 9)) (.bif .len (.cons (.var 7) .nil))))) .nil) .nil) (.cons (.putD (3, none) (.var 8) (.var 2)) (.cons (.ret (.tup (.cons (.str 0) (.cons (.var 8) .nil)))) .nil))))) .nil) (.cons (.asgO 5 (.lst (.cons (.ix (.var 2) (.int 0)) .nil))) (.cons (.for_ [6] (.rng2 (.int 1) (.bif .len (.cons (.var 2) .nil))) (.cons (.asg 9 (.ix (.var 2) (.var 6))) (.cons (.if_ (.bin .ne (.ix (.var 2) (.int 0)) (.str 0)) (.cons (.asg 9 (.call 25 (.cons (.var 0) (.cons (.bin .add (.bin .mul (.int 2) (.var 1)) (.var 6)) (.cons (.ix (.var 2) (.var 6)) (.cons (.mv 3) .nil)))))) .nil) .nil) (.cons (.app (5, none) (.var 9)) .nil)))) (.cons (.ret (.bif .tuple (.cons (.var 5) .nil))) .nil)))))
/-- law: _law_script 0, _law_one 1, _law_told_here 2, _law_far 3, _law_k 4, _law_gap_here 5, _law_other 6, _law_same 7, _law_found 8 -/
def d26 : Def where
  names := ["_law_script", "_law_one", "_law_told_here", "_law_far", "_law_k", "_law_gap_here", "_law_other", "_law_same", "_law_found"]
  modes := [false]
  body := (.cons (.asg 1 (.call 5 (.cons (.var 0) (.cons (.int 0) (.cons (.int 3) .nil))))) (.cons (.asgO 2 (.dic [] .nil)) (.cons (.asgO 3 (.dic [] .nil)) (.cons (.for_ [4] (.rng1 (.int 6)) (.cons (.putD (3, none) (.ix (.call 4 (.cons (.var 4) .nil)) (.int 1)) (.tup (.cons (.str 0) (.cons (.bin .add (.int 50) (.var 4)) .nil)))) .nil)) (.cons (.for_ [5] (.seq (.call 7 (.cons (.var 1) .nil))) (.cons (.putD (2, none) (.var 5) (.call 21 (.cons (.call 5 (.cons (.var 0) (.cons (.bin .add (.int 40) (.bif .len (.cons (.var 2) .nil))) (.cons (.int 2) .nil)))) (.cons (.var 3) .nil)))) .nil)) (.cons (.asg 6 (.call 25 (.cons (.var 0) (.cons (.int 20) (.cons (.call 21 (.cons (.var 1) (.cons (.var 2) .nil))) (.cons (.mv 2) .nil)))))) (.cons (.asg 7 (.call 21 (.cons (.var 1) (.cons (.var 2) .nil)))) (.cons (.if_ (.bin .eq (.bin .mod (.call 2 (.cons (.var 0) (.cons (.int 62) .nil))) (.int 2)) (.int 0)) (.cons (.swap 1 6 (.var 6) (.var 1)) .nil) .nil) (.cons (.asg 8 (.call 23 (.cons (.var 1) (.cons (.var 6) .nil)))) (.cons (.if_ (.or_ (.not_ (.isi (.var 8) .dict)) (.not_ (.call 24 (.cons (.var 8) (.cons (.var 1) (.cons (.var 6) .nil)))))) (.cons (.ret (.bl false)) .nil) .nil) (.cons (.ret (.call 22 (.cons (.call 21 (.cons (.var 1) (.cons (.var 8) .nil))) (.cons (.var 7) .nil)))) .nil)))))))))))
/-- _law_solve: _law_pairs_here 0, _law_told_here 1, _law_left 2, _law_one 3, _law_other 4, _law_number 5 -/
def d27 : Def where
  names := ["_law_pairs_here", "_law_told_here", "_law_left", "_law_one", "_law_other", "_law_number"]
  modes := [false]
  body := (.cons (.asgO 1 (.dic [] .nil)) (.cons (.asgO 2 (.bif .list (.cons (.var 0) .nil))) (.cons (.while_ (.var 2) (.cons (.asgT [3, 4] (.pop (2, none))) (.cons (.asg 3 (.call 21 (.cons (.var 3) (.cons (.var 1) .nil)))) (.cons (.asg 4 (.call 21 (.cons (.var 4) (.cons (.var 1) .nil)))) (.cons (.if_ (.bin .ne (.ix (.var 3) (.int 0)) (.str 0)) (.cons (.swap 3 4 (.var 4) (.var 3)) .nil) .nil) (.cons (.if_ (.bin .eq (.var 3) (.var 4)) (.cons .cont .nil) .nil) (.cons (.if_ (.bin .eq (.ix (.var 3) (.int 0)) (.str 0)) (.cons (.if_ (.bin .isin (.ix (.var 3) (.int 1)) (.call 7 (.cons (.var 4) .nil))) (.cons (.ret .non) .nil) .nil) (.cons (.for_ [5] (.seq (.bif .list (.cons (.var 1) .nil))) (.cons (.putD (1, none) (.var 5) (.call 21 (.cons (.dx (.var 1) (.var 5)) (.cons (.dk1 (.ix (.var 3) (.int 1)) (.var 4)) .nil)))) .nil)) (.cons (.putD (1, none) (.ix (.var 3) (.int 1)) (.var 4)) .nil))) (.cons (.if_ (.bin .ne (.ix (.var 3) (.int 0)) (.ix (.var 4) (.int 0))) (.cons (.ret .non) .nil) (.cons (.asgO 2 (.bin .ladd (.var 2) (.bif .lzip (.cons (.slc (.var 3) (.int 1) .non) (.cons (.slc (.var 4) (.int 1) .non) .nil))))) .nil)) .nil)) .nil))))))) (.cons (.retO 1) .nil))))
/-- law: _law_script 0, _law_one 1, _law_other 2, _law_found 3, _law_due 4, _law_same 5 -/
def d28 : Def where
  names := ["_law_script", "_law_one", "_law_other", "_law_found", "_law_due", "_law_same"]
  modes := [false]
  body := (.cons (.asg 1 (.call 5 (.cons (.var 0) (.cons (.int 0) (.cons (.int 3) .nil))))) (.cons (.asg 2 (.call 5 (.cons (.var 0) (.cons (.bin .add (.int 20) (.bin .mod (.call 2 (.cons (.var 0) (.cons (.int 60) .nil))) (.int 20))) (.cons (.int 3) .nil))))) (.cons (.asg 3 (.call 23 (.cons (.var 1) (.cons (.var 2) .nil)))) (.cons (.asg 4 (.call 27 (.cons (.lst (.cons (.tup (.cons (.var 1) (.cons (.var 2) .nil))) .nil)) .nil))) (.cons (.if_ (.bin .isx (.var 4) .non) (.cons (.ret (.and_ (.bin .eq (.var 3) (.str 27)) (.bin .eq (.call 23 (.cons (.var 2) (.cons (.var 1) .nil))) (.str 27)))) .nil) .nil) (.cons (.if_ (.or_ (.not_ (.isi (.var 3) .dict)) (.not_ (.call 24 (.cons (.var 3) (.cons (.var 1) (.cons (.var 2) .nil)))))) (.cons (.ret (.bl false)) .nil) .nil) (.cons (.asg 5 (.call 21 (.cons (.var 1) (.cons (.var 4) .nil)))) (.cons (.ret (.and_ (.call 22 (.cons (.call 21 (.cons (.var 1) (.cons (.var 3) .nil))) (.cons (.var 5) .nil))) (.call 22 (.cons (.var 5) (.cons (.call 21 (.cons (.var 1) (.cons (.var 3) .nil))) .nil))))) .nil))))))))
/-- parts: tree 0, kind 1, part 2 -/
def d29 : Def where
  names := ["tree", "kind", "part"]
  modes := [false]
  body := (.cons (.asg 1 (.ix (.var 0) (.int 0))) (.cons (.if_ (.bin .isin (.var 1) (.tup (.cons (.str 6) (.cons (.str 1) (.cons (.str 2) (.cons (.str 13) .nil)))))) (.cons (.ret (.lst .nil)) .nil) .nil) (.cons (.if_ (.bin .eq (.var 1) (.str 3)) (.cons (.ret (.lst (.cons (.tup (.cons (.ix (.var 0) (.int 2)) (.cons (.lst (.cons (.ix (.var 0) (.int 1)) .nil)) .nil))) .nil))) .nil) .nil) (.cons (.if_ (.bin .eq (.var 1) (.str 14)) (.cons (.ret (.lst (.cons (.tup (.cons (.ix (.var 0) (.int 3)) (.cons (.lst (.cons (.ix (.var 0) (.int 1)) (.cons (.ix (.var 0) (.int 2)) .nil))) .nil))) .nil))) .nil) .nil) (.cons (.if_ (.bin .eq (.var 1) (.str 8)) (.cons (.ret (.lst (.cons (.tup (.cons (.ix (.var 0) (.int 2)) (.cons (.lst .nil) .nil))) (.cons (.tup (.cons (.ix (.var 0) (.int 3)) (.cons (.lst (.cons (.ix (.var 0) (.int 1)) .nil)) .nil))) .nil)))) .nil) .nil) (.cons (.if_ (.bin .eq (.var 1) (.str 10)) (.cons (.ret (.lst (.cons (.tup (.cons (.ix (.var 0) (.int 1)) (.cons (.lst .nil) .nil))) (.cons (.tup (.cons (.ix (.var 0) (.int 4)) (.cons (.lst (.cons (.ix (.var 0) (.int 2)) (.cons (.ix (.var 0) (.int 3)) .nil))) .nil))) .nil)))) .nil) .nil) (.cons (.if_ (.bin .eq (.var 1) (.str 11)) (.cons (.ret (.lst (.cons (.tup (.cons (.ix (.var 0) (.int 1)) (.cons (.lst .nil) .nil))) (.cons (.tup (.cons (.ix (.var 0) (.int 2)) (.cons (.lst .nil) .nil))) (.cons (.tup (.cons (.ix (.var 0) (.int 5)) (.cons (.lst (.cons (.ix (.var 0) (.int 3)) (.cons (.ix (.var 0) (.int 4)) .nil))) .nil))) .nil))))) .nil) .nil) (.cons (.if_ (.bin .eq (.var 1) (.str 12)) (.cons (.ret (.lst (.cons (.tup (.cons (.ix (.var 0) (.int 2)) (.cons (.lst .nil) .nil))) (.cons (.tup (.cons (.ix (.var 0) (.int 3)) (.cons (.lst .nil) .nil))) .nil)))) .nil) .nil) (.cons (.ret (.comp (.tup (.cons (.var 2) (.cons (.lst .nil) .nil))) [2] (.seq (.slc (.var 0) (.int 1) .non)) (.bl true))) .nil)))))))))
/-- _law_filled: _law_kind 0, _law_told 1, _law_found 2, _law_part 3 -/
def d32 : Def where
  names := ["_law_kind", "_law_told", "_law_found", "_law_part"]
  modes := [false, false]
  body := (.cons (.if_ (.bin .eq (.ix (.var 0) (.int 0)) (.str 0)) (.cons (.ret (.get (.var 1) (.ix (.var 0) (.int 1)) (.var 0))) .nil) .nil) (.cons (.asgO 2 (.lst (.cons (.ix (.var 0) (.int 0)) .nil))) (.cons (.for_ [3] (.seq (.slc (.var 0) (.int 1) .non)) (.cons (.app (2, none) (.call 32 (.cons (.var 3) (.cons (.var 1) .nil)))) .nil)) (.cons (.ret (.bif .tuple (.cons (.var 2) .nil))) .nil))))
/-- _law_gaps: _law_kind 0, _law_found 1, _law_part 2, _law_number 3 -/
def d33 : Def where
  names := ["_law_kind", "_law_found", "_law_part", "_law_number"]
  modes := [false]
  body := (.cons (.if_ (.bin .eq (.ix (.var 0) (.int 0)) (.str 0)) (.cons (.ret (.lst (.cons (.ix (.var 0) (.int 1)) .nil))) .nil) .nil) (.cons (.asg 1 (.lst .nil)) (.cons (.for_ [2] (.seq (.slc (.var 0) (.int 1) .non)) (.cons (.asg 1 (.bin .add (.var 1) (.comp (.var 3) [3] (.seq (.call 33 (.cons (.var 2) .nil))) (.bin .notin (.var 3) (.var 1))))) .nil)) (.cons (.ret (.var 1)) .nil))))
/-- _law_pairs: _law_wide 0, _law_kind 1, _law_found 2, _law_k 3, _law_more 4 -/
def d34 : Def where
  names := ["_law_wide", "_law_kind", "_law_found", "_law_k", "_law_more"]
  modes := [false, false]
  body := (.cons (.if_ (.bin .eq (.ix (.var 0) (.int 0)) (.str 0)) (.cons (.ret (.lst (.cons (.tup (.cons (.ix (.var 0) (.int 1)) (.cons (.var 1) .nil))) .nil))) .nil) .nil) (.cons (.if_ (.bin .ne (.ix (.var 0) (.int 0)) (.ix (.var 1) (.int 0))) (.cons (.ret .non) .nil) .nil) (.cons (.asg 2 (.lst .nil)) (.cons (.for_ [3] (.rng2 (.int 1) (.bif .len (.cons (.var 0) .nil))) (.cons (.asg 4 (.call 34 (.cons (.ix (.var 0) (.var 3)) (.cons (.ix (.var 1) (.var 3)) .nil)))) (.cons (.if_ (.bin .isx (.var 4) .non) (.cons (.ret .non) .nil) .nil) (.cons (.asg 2 (.bin .add (.var 2) (.var 4))) .nil)))) (.cons (.ret (.var 2)) .nil)))))
/-- _law_wider: _law_wide 0, _law_kind 1, _law_pairs_here 2, _law_told 3, _law_gap 4, _law_part 5 -/
def d35 : Def where
  names := ["_law_wide", "_law_kind", "_law_pairs_here", "_law_told", "_law_gap", "_law_part"]
  modes := [false, false]
  body := (.cons (.asg 2 (.call 34 (.cons (.var 0) (.cons (.var 1) .nil)))) (.cons (.if_ (.bin .isx (.var 2) .non) (.cons (.ret (.bl false)) .nil) .nil) (.cons (.asg 3 (.bif .dict (.cons (.var 2) .nil))) (.cons (.ret (.bif .all (.cons (.comp (.bin .eq (.dx (.var 3) (.var 4)) (.var 5)) [4, 5] (.seq (.var 2)) (.bl true)) .nil))) .nil))))
/-- _law_int: _law_number 0, _law_some 1 -/
def d37 : Def where
  names := ["_law_number", "_law_some"]
  modes := [false]
  body := (.cons (.asg 1 (.lst (.cons (.int 0) (.cons (.int 1) (.cons (.neg (.int 1)) (.cons (.int 2) (.cons (.int 7) (.cons (.bin .sub (.bin .pow (.int 10) (.int 30)) (.int 1)) (.cons (.bin .sub (.int 1) (.bin .pow (.int 10) (.int 30))) (.cons (.bin .mod (.var 0) (.int 1000)) .nil)))))))))) (.cons (.ret (.ix (.var 1) (.bin .mod (.bin .fdiv (.var 0) (.int 7)) (.int 8)))) .nil))
/-- _law_name: _law_number 0 -/
def d38 : Def where
  names := ["_law_number"]
  modes := [false]
  body := (.cons (.ret (.ix (.lst (.cons (.str 20) (.cons (.str 21) (.cons (.str 22) (.cons (.str 23) (.cons (.str 24) .nil)))))) (.bin .mod (.var 0) (.int 5)))) .nil)
/-- _law_ground: _law_script 0, _law_k 1, _law_deep 2, _law_number 3, _law_word 4 -/
def d39 : Def where
  names := ["_law_script", "_law_k", "_law_deep", "_law_number", "_law_word"]
  modes := [false, false, false]
  body := (.cons (.asg 3 (.call 2 (.cons (.var 0) (.cons (.var 1) .nil)))) (.cons (.if_ (.or_ (.bin .eq (.var 2) (.int 0)) (.bin .lt (.bin .mod (.var 3) (.int 5)) (.int 2))) (.cons (.ret (.ix (.lst (.cons (.tup (.cons (.str 1) .nil)) (.cons (.tup (.cons (.str 2) .nil)) .nil))) (.bin .mod (.bin .fdiv (.var 3) (.int 5)) (.int 2)))) .nil) .nil) (.cons (.if_ (.bin .eq (.bin .mod (.var 3) (.int 5)) (.int 2)) (.cons (.ret (.tup (.cons (.str 5) (.cons (.call 39 (.cons (.var 0) (.cons (.bin .add (.bin .mul (.int 2) (.var 1)) (.int 1)) (.cons (.bin .sub (.var 2) (.int 1)) .nil)))) .nil)))) .nil) .nil) (.cons (.asg 4 (.ix (.lst (.cons (.str 3) (.cons (.str 4) .nil))) (.bin .mod (.var 3) (.int 2)))) (.cons (.ret (.tup (.cons (.var 4) (.cons (.call 39 (.cons (.var 0) (.cons (.bin .add (.bin .mul (.int 2) (.var 1)) (.int 1)) (.cons (.bin .sub (.var 2) (.int 1)) .nil)))) (.cons (.call 39 (.cons (.var 0) (.cons (.bin .add (.bin .mul (.int 2) (.var 1)) (.int 2)) (.cons (.bin .sub (.var 2) (.int 1)) .nil)))) .nil))))) .nil)))))
/-- _law_with: _law_names 0, _law_more 1, _law_kept 2, _law_one 3, _law_new 4 -/
def d40 : Def where
  names := ["_law_names", "_law_more", "_law_kept", "_law_one", "_law_new"]
  modes := [false, false]
  body := (.cons (.asg 2 (.comp (.var 3) [3] (.seq (.var 0)) (.bin .notin (.ix (.var 3) (.int 0)) (.comp (.ix (.var 4) (.int 0)) [4] (.seq (.var 1)) (.bl true))))) (.cons (.ret (.bin .add (.var 2) (.var 1))) .nil))
/-- _law_any: _law_script 0, _law_k 1, _law_names 2, _law_deep 3, _law_number 4, _law_some 5 -/
def d47 : Def where
  names := ["_law_script", "_law_k", "_law_names", "_law_deep", "_law_number", "_law_some"]
  modes := [false, false, false, false]
  body := (.cons (.asg 4 (.call 2 (.cons (.var 0) (.cons (.var 1) .nil)))) (.cons (.if_ (.and_ (.var 2) (.and_ (.bin .lt (.bin .mod (.var 4) (.int 4)) (.int 3)) (.or_ (.bin .eq (.var 3) (.int 0)) (.bin .eq (.bin .mod (.var 4) (.int 4)) (.int 0))))) (.cons (.ret (.tup (.cons (.str 6) (.cons (.ix (.var 2) (.bin .mod (.bin .fdiv (.var 4) (.int 4)) (.bif .len (.cons (.var 2) .nil)))) .nil)))) .nil) .nil) (.cons (.if_ (.or_ (.bin .eq (.var 3) (.int 0)) (.bin .eq (.bin .mod (.bin .fdiv (.var 4) (.int 4)) (.int 12)) (.int 0))) (.cons (.asg 5 (.lst (.cons (.tup (.cons (.str 1) (.cons (.call 37 (.cons (.bin .fdiv (.var 4) (.int 48)) .nil)) .nil))) (.cons (.tup (.cons (.str 2) (.cons (.bin .eq (.bin .mod (.bin .fdiv (.var 4) (.int 96)) (.int 2)) (.int 0)) .nil))) (.cons (.tup (.cons (.str 13) .nil)) .nil))))) (.cons (.ret (.ix (.var 5) (.bin .mod (.bin .fdiv (.var 4) (.int 192)) (.int 3)))) .nil)) .nil) (.cons (.ret (.call 48 (.cons (.var 0) (.cons (.var 1) (.cons (.var 2) (.cons (.bin .sub (.var 3) (.int 1)) (.cons (.bin .fdiv (.var 4) (.int 4)) .nil))))))) .nil))))
/-- _law_form: _law_script 0, _law_k 1, _law_names 2, _law_deep 3, _law_number 4, _law_way 5, _law_a 6, _law_b 7, _law_one 8, _law_other 9, _law_third 10 -/
def d48 : Def where
  names := ["_law_script", "_law_k", "_law_names", "_law_deep", "_law_number", "_law_way", "_law_a", "_law_b", "_law_one", "_law_other", "_law_third"]
  modes := [false, false, false, false, false]
  body := (.cons (.asg 5 (.bin .mod (.var 4) (.int 12))) (.cons (.asg 6 (.call 38 (.cons (.bin .fdiv (.var 4) (.int 60)) .nil))) (.cons (.asg 7 (.call 38 (.cons (.bin .fdiv (.var 4) (.int 300)) .nil))) (.cons (.if_ (.bin .eq (.var 5) (.int 1)) (.cons (.ret (.tup (.cons (.str 3) (.cons (.var 6) (.cons (.call 47 (.cons (.var 0) (.cons (.bin .add (.bin .mul (.int 3) (.var 1)) (.int 1)) (.cons (.bin .add (.var 2) (.lst (.cons (.var 6) .nil))) (.cons (.var 3) .nil))))) .nil))))) .nil) .nil) (.cons (.if_ (.bin .eq (.var 5) (.int 2)) (.cons (.ret (.tup (.cons (.str 14) (.cons (.var 6) (.cons (.var 7) (.cons (.call 47 (.cons (.var 0) (.cons (.bin .add (.bin .mul (.int 3) (.var 1)) (.int 1)) (.cons (.bin .add (.var 2) (.lst (.cons (.var 6) (.cons (.var 7) .nil)))) (.cons (.var 3) .nil))))) .nil)))))) .nil) .nil) (.cons (.asg 8 (.call 47 (.cons (.var 0) (.cons (.bin .add (.bin .mul (.int 3) (.var 1)) (.int 2)) (.cons (.var 2) (.cons (.var 3) .nil)))))) (.cons (.if_ (.bin .eq (.var 5) (.int 3)) (.cons (.ret (.tup (.cons (.str 8) (.cons (.var 6) (.cons (.var 8) (.cons (.call 47 (.cons (.var 0) (.cons (.bin .add (.bin .mul (.int 3) (.var 1)) (.int 3)) (.cons (.bin .add (.var 2) (.lst (.cons (.var 6) .nil))) (.cons (.var 3) .nil))))) .nil)))))) .nil) .nil) (.cons (.if_ (.bin .eq (.var 5) (.int 4)) (.cons (.ret (.tup (.cons (.str 10) (.cons (.var 8) (.cons (.var 6) (.cons (.var 7) (.cons (.call 47 (.cons (.var 0) (.cons (.bin .add (.bin .mul (.int 3) (.var 1)) (.int 3)) (.cons (.bin .add (.var 2) (.lst (.cons (.var 6) (.cons (.var 7) .nil)))) (.cons (.var 3) .nil))))) .nil))))))) .nil) .nil) (.cons (.asg 9 (.call 47 (.cons (.var 0) (.cons (.bin .add (.bin .mul (.int 3) (.var 1)) (.int 3)) (.cons (.var 2) (.cons (.var 3) .nil)))))) (.cons (.if_ (.bin .lt (.var 5) (.int 9)) (.cons (.ret (.tup (.cons (.ix (.lst (.cons (.str 7) (.cons (.str 4) (.cons (.str 15) (.cons (.str 7) .nil))))) (.bin .sub (.var 5) (.int 5))) (.cons (.var 8) (.cons (.var 9) .nil))))) .nil) .nil) (.cons (.if_ (.bin .eq (.var 5) (.int 9)) (.cons (.ret (.tup (.cons (.str 12) (.cons (.ix (.lst (.cons (.str 16) (.cons (.str 17) (.cons (.str 18) (.cons (.str 19) .nil))))) (.bin .mod (.bin .fdiv (.var 4) (.int 12)) (.int 4))) (.cons (.var 8) (.cons (.var 9) .nil)))))) .nil) .nil) (.cons (.asg 10 (.call 47 (.cons (.var 0) (.cons (.bin .add (.bin .mul (.int 3) (.var 1)) (.int 1)) (.cons (.bin .add (.var 2) (.bin .mul (.lst (.cons (.var 6) (.cons (.var 7) .nil))) (.bin .sub (.var 5) (.int 10)))) (.cons (.var 3) .nil)))))) (.cons (.ret (.ife (.bin .eq (.var 5) (.int 10)) (.tup (.cons (.str 9) (.cons (.var 8) (.cons (.var 9) (.cons (.var 10) .nil))))) (.tup (.cons (.str 11) (.cons (.var 8) (.cons (.var 9) (.cons (.var 6) (.cons (.var 7) (.cons (.var 10) .nil))))))))) .nil)))))))))))))
/-- with_parts: tree 0, inner 1, kind 2 -/
def d80 : Def where
  names := ["tree", "inner", "kind"]
  modes := [false, false]
  body := (.cons (.asg 2 (.ix (.var 0) (.int 0))) (.cons (.if_ (.bin .isin (.var 2) (.tup (.cons (.str 6) (.cons (.str 1) (.cons (.str 2) (.cons (.str 13) .nil)))))) (.cons (.ret (.var 0)) .nil) .nil) (.cons (.if_ (.bin .eq (.var 2) (.str 3)) (.cons (.ret (.tup (.cons (.str 3) (.cons (.ix (.var 0) (.int 1)) (.cons (.ix (.var 1) (.int 0)) .nil))))) .nil) .nil) (.cons (.if_ (.bin .eq (.var 2) (.str 14)) (.cons (.ret (.tup (.cons (.str 14) (.cons (.ix (.var 0) (.int 1)) (.cons (.ix (.var 0) (.int 2)) (.cons (.ix (.var 1) (.int 0)) .nil)))))) .nil) .nil) (.cons (.if_ (.bin .eq (.var 2) (.str 8)) (.cons (.ret (.tup (.cons (.str 8) (.cons (.ix (.var 0) (.int 1)) (.cons (.ix (.var 1) (.int 0)) (.cons (.ix (.var 1) (.int 1)) .nil)))))) .nil) .nil) (.cons (.if_ (.bin .eq (.var 2) (.str 10)) (.cons (.ret (.tup (.cons (.str 10) (.cons (.ix (.var 1) (.int 0)) (.cons (.ix (.var 0) (.int 2)) (.cons (.ix (.var 0) (.int 3)) (.cons (.ix (.var 1) (.int 1)) .nil))))))) .nil) .nil) (.cons (.if_ (.bin .eq (.var 2) (.str 11)) (.cons (.ret (.tup (.cons (.str 11) (.cons (.ix (.var 1) (.int 0)) (.cons (.ix (.var 1) (.int 1)) (.cons (.ix (.var 0) (.int 3)) (.cons (.ix (.var 0) (.int 4)) (.cons (.ix (.var 1) (.int 2)) .nil)))))))) .nil) .nil) (.cons (.if_ (.bin .eq (.var 2) (.str 12)) (.cons (.ret (.tup (.cons (.str 12) (.cons (.ix (.var 0) (.int 1)) (.cons (.ix (.var 1) (.int 0)) (.cons (.ix (.var 1) (.int 1)) .nil)))))) .nil) .nil) (.cons (.ret (.bin .add (.tup (.cons (.var 2) .nil)) (.bif .tuple (.cons (.var 1) .nil)))) .nil)))))))))
/-- put_in: tree 0, name 1, value 2, inner 3, part 4, given 5 -/
def d81 : Def where
  names := ["tree", "name", "value", "inner", "part", "given"]
  modes := [false, false, false]
  body := (.cons (.if_ (.bin .eq (.ix (.var 0) (.int 0)) (.str 6)) (.cons (.ret (.ife (.bin .eq (.ix (.var 0) (.int 1)) (.var 1)) (.var 2) (.var 0))) .nil) .nil) (.cons (.asgO 3 (.lst .nil)) (.cons (.for_ [4, 5] (.seq (.call 29 (.cons (.var 0) .nil))) (.cons (.app (3, none) (.ife (.bin .isin (.var 1) (.var 5)) (.var 4) (.call 81 (.cons (.var 4) (.cons (.var 1) (.cons (.var 2) .nil)))))) .nil)) (.cons (.ret (.call 80 (.cons (.var 0) (.cons (.var 3) .nil)))) .nil))))
/-- is_value: tree 0 -/
def d82 : Def where
  names := ["tree"]
  modes := [false]
  body := (.cons (.if_ (.bin .isin (.ix (.var 0) (.int 0)) (.tup (.cons (.str 4) (.cons (.str 15) .nil)))) (.cons (.ret (.and_ (.call 82 (.cons (.ix (.var 0) (.int 1)) .nil)) (.call 82 (.cons (.ix (.var 0) (.int 2)) .nil)))) .nil) .nil) (.cons (.ret (.bin .notin (.ix (.var 0) (.int 0)) (.glob 3))) .nil))
/-- first_parts: tree 0 -/
def d83 : Def where
  names := ["tree"]
  modes := [false]
  body := (.cons (.if_ (.bin .isin (.ix (.var 0) (.int 0)) (.tup (.cons (.str 7) (.cons (.str 12) (.cons (.str 4) (.cons (.str 15) .nil)))))) (.cons (.ret (.int 2)) .nil) .nil) (.cons (.if_ (.bin .isin (.ix (.var 0) (.int 0)) (.tup (.cons (.str 8) (.cons (.str 9) (.cons (.str 10) (.cons (.str 11) .nil)))))) (.cons (.ret (.int 1)) .nil) .nil) (.cons (.ret (.int 0)) .nil)))
/-- step: tree 0, inner 1, k 2, told 3, one 4 -/
def d84 : Def where
  names := ["tree", "inner", "k", "told", "one"]
  modes := [false]
  body := (.cons (.if_ (.call 82 (.cons (.var 0) .nil)) (.cons (.ret .non) .nil) .nil) (.cons (.asgO 1 (.comp (.ix (.var 4) (.int 0)) [4] (.seq (.call 29 (.cons (.var 0) .nil))) (.bl true))) (.cons (.for_ [2] (.rng1 (.call 83 (.cons (.var 0) .nil))) (.cons (.asg 3 (.call 84 (.cons (.ix (.var 1) (.var 2)) .nil))) (.cons (.if_ (.bin .isnx (.var 3) .non) (.cons (.setL (1, none) (.var 2) (.ix (.var 3) (.int 0))) (.cons (.ret (.tup (.cons (.call 80 (.cons (.var 0) (.cons (.var 1) .nil))) (.cons (.ix (.var 3) (.int 1)) .nil)))) .nil)) .nil) .nil))) (.cons (.if_ (.bin .eq (.ix (.var 0) (.int 0)) (.str 7)) (.cons (.ret (.tup (.cons (.call 85 (.cons (.ix (.var 0) (.int 1)) (.cons (.ix (.var 0) (.int 2)) .nil))) (.cons (.bl true) .nil)))) .nil) .nil) (.cons (.ret (.tup (.cons (.call 87 (.cons (.var 0) .nil)) (.cons (.bl false) .nil)))) .nil)))))
/-- called: deed 0, value 1, body 2 -/
def d85 : Def where
  names := ["deed", "value", "body"]
  modes := [false, false]
  body := (.cons (.if_ (.bin .eq (.ix (.var 0) (.int 0)) (.str 3)) (.cons (.ret (.call 81 (.cons (.ix (.var 0) (.int 2)) (.cons (.ix (.var 0) (.int 1)) (.cons (.var 1) .nil))))) .nil) .nil) (.cons (.if_ (.bin .ne (.ix (.var 0) (.int 0)) (.str 14)) (.cons (.raise_ 4 .nil) .nil) .nil) (.cons (.asg 2 (.call 81 (.cons (.ix (.var 0) (.int 3)) (.cons (.ix (.var 0) (.int 2)) (.cons (.var 1) .nil))))) (.cons (.if_ (.bin .eq (.ix (.var 0) (.int 1)) (.ix (.var 0) (.int 2))) (.cons (.ret (.var 2)) .nil) .nil) (.cons (.ret (.call 81 (.cons (.var 2) (.cons (.ix (.var 0) (.int 1)) (.cons (.var 0) .nil))))) .nil)))))
/-- two_in: tree 0, names 1, values 2, found 3 -/
def d86 : Def where
  names := ["tree", "names", "values", "found"]
  modes := [false, false, false]
  body := (.cons (.asg 3 (.call 81 (.cons (.var 0) (.cons (.ix (.var 1) (.int 1)) (.cons (.ix (.var 2) (.int 1)) .nil))))) (.cons (.ret (.call 81 (.cons (.var 3) (.cons (.ix (.var 1) (.int 0)) (.cons (.ix (.var 2) (.int 0)) .nil))))) .nil))
/-- turned: tree 0, one 1 -/
def d87 : Def where
  names := ["tree", "one"]
  modes := [false]
  body := (.cons (.asg 1 (.ix (.var 0) (.int 1))) (.cons (.if_ (.bin .eq (.ix (.var 0) (.int 0)) (.str 8)) (.cons (.ret (.call 81 (.cons (.ix (.var 0) (.int 3)) (.cons (.ix (.var 0) (.int 1)) (.cons (.ix (.var 0) (.int 2)) .nil))))) .nil) .nil) (.cons (.if_ (.and_ (.bin .eq (.ix (.var 0) (.int 0)) (.str 9)) (.bin .eq (.ix (.var 1) (.int 0)) (.str 2))) (.cons (.ret (.ife (.ix (.var 1) (.int 1)) (.ix (.var 0) (.int 2)) (.ix (.var 0) (.int 3)))) .nil) .nil) (.cons (.if_ (.and_ (.bin .eq (.ix (.var 0) (.int 0)) (.str 10)) (.bin .eq (.ix (.var 1) (.int 0)) (.str 4))) (.cons (.ret (.call 86 (.cons (.ix (.var 0) (.int 4)) (.cons (.slc (.var 0) (.int 2) (.int 4)) (.cons (.slc (.var 1) (.int 1) .non) .nil))))) .nil) .nil) (.cons (.if_ (.and_ (.bin .eq (.ix (.var 0) (.int 0)) (.str 11)) (.bin .eq (.ix (.var 1) (.int 0)) (.str 13))) (.cons (.ret (.ix (.var 0) (.int 2))) .nil) .nil) (.cons (.if_ (.and_ (.bin .eq (.ix (.var 0) (.int 0)) (.str 11)) (.bin .eq (.ix (.var 1) (.int 0)) (.str 15))) (.cons (.ret (.call 86 (.cons (.ix (.var 0) (.int 5)) (.cons (.slc (.var 0) (.int 3) (.int 5)) (.cons (.slc (.var 1) (.int 1) .non) .nil))))) .nil) .nil) (.cons (.if_ (.and_ (.bin .eq (.ix (.var 0) (.int 0)) (.str 12)) (.and_ (.bin .eq (.ix (.ix (.var 0) (.int 2)) (.int 0)) (.str 1)) (.bin .eq (.ix (.ix (.var 0) (.int 3)) (.int 0)) (.str 1)))) (.cons (.ret (.call 88 (.cons (.var 1) (.cons (.ix (.ix (.var 0) (.int 2)) (.int 1)) (.cons (.ix (.ix (.var 0) (.int 3)) (.int 1)) .nil))))) .nil) .nil) (.cons (.raise_ 4 .nil) .nil))))))))
/-- reckoned: op 0, one 1, other 2 -/
def d88 : Def where
  names := ["op", "one", "other"]
  modes := [false, false, false]
  body := (.cons (.if_ (.bin .eq (.var 0) (.str 16)) (.cons (.ret (.tup (.cons (.str 1) (.cons (.bin .add (.var 1) (.var 2)) .nil)))) .nil) .nil) (.cons (.if_ (.bin .eq (.var 0) (.str 17)) (.cons (.ret (.tup (.cons (.str 1) (.cons (.bin .sub (.var 1) (.var 2)) .nil)))) .nil) .nil) (.cons (.if_ (.bin .eq (.var 0) (.str 18)) (.cons (.ret (.tup (.cons (.str 2) (.cons (.bin .lt (.var 1) (.var 2)) .nil)))) .nil) .nil) (.cons (.ret (.tup (.cons (.str 2) (.cons (.bin .eq (.var 1) (.var 2)) .nil)))) .nil))))
/-- _law_made: _law_script 0, _law_k 1, _law_goal 2, _law_names 3, _law_deep 4, _law_number 5, _law_good 6, _law_one 7 -/
def d89 : Def where
  names := ["_law_script", "_law_k", "_law_goal", "_law_names", "_law_deep", "_law_number", "_law_good", "_law_one"]
  modes := [false, false, false, false, false]
  body := (.cons (.asg 5 (.call 2 (.cons (.var 0) (.cons (.var 1) .nil)))) (.cons (.asg 6 (.comp (.ix (.var 7) (.int 0)) [7] (.seq (.var 3)) (.call 35 (.cons (.ix (.var 7) (.int 1)) (.cons (.var 2) .nil))))) (.cons (.if_ (.and_ (.var 6) (.bin .eq (.bin .mod (.var 5) (.int 3)) (.int 0))) (.cons (.ret (.tup (.cons (.str 6) (.cons (.ix (.var 6) (.bin .mod (.bin .fdiv (.var 5) (.int 3)) (.bif .len (.cons (.var 6) .nil)))) .nil)))) .nil) .nil) (.cons (.if_ (.and_ (.bin .gt (.var 4) (.int 0)) (.bin .lt (.bin .mod (.var 5) (.int 5)) (.int 4))) (.cons (.ret (.call 91 (.cons (.var 0) (.cons (.var 1) (.cons (.var 2) (.cons (.var 3) (.cons (.bin .sub (.var 4) (.int 1)) .nil))))))) .nil) .nil) (.cons (.ret (.call 90 (.cons (.var 0) (.cons (.var 1) (.cons (.var 2) (.cons (.var 3) (.cons (.bif .max2 (.cons (.int 0) (.cons (.bin .sub (.var 4) (.int 1)) .nil))) .nil))))))) .nil)))))
/-- _law_built: _law_script 0, _law_k 1, _law_goal 2, _law_names 3, _law_deep 4, _law_number 5, _law_a 6, _law_b 7, _law_words 8, _law_kinds 9, _law_pieces 10, _law_inner 11, _law_j 12 -/
def d90 : Def where
  names := ["_law_script", "_law_k", "_law_goal", "_law_names", "_law_deep", "_law_number", "_law_a", "_law_b", "_law_words", "_law_kinds", "_law_pieces", "_law_inner", "_law_j"]
  modes := [false, false, false, false, false]
  body := (.cons (.asg 5 (.call 2 (.cons (.var 0) (.cons (.bin .add (.var 1) (.int 1)) .nil)))) (.cons (.asg 6 (.call 38 (.cons (.bin .fdiv (.var 5) (.int 8)) .nil))) (.cons (.asg 7 (.call 38 (.cons (.bin .fdiv (.var 5) (.int 40)) .nil))) (.cons (.if_ (.bin .eq (.ix (.var 2) (.int 0)) (.str 3)) (.cons (.asg 11 (.call 40 (.cons (.var 3) (.cons (.lst (.cons (.tup (.cons (.var 6) (.cons (.ix (.var 2) (.int 1)) .nil))) .nil)) .nil)))) (.cons (.if_ (.and_ (.bin .ne (.var 6) (.var 7)) (.bin .eq (.bin .mod (.var 5) (.int 2)) (.int 0))) (.cons (.asg 11 (.call 40 (.cons (.var 3) (.cons (.lst (.cons (.tup (.cons (.var 7) (.cons (.var 2) .nil))) (.cons (.tup (.cons (.var 6) (.cons (.ix (.var 2) (.int 1)) .nil))) .nil))) .nil)))) (.cons (.ret (.tup (.cons (.str 14) (.cons (.var 7) (.cons (.var 6) (.cons (.call 89 (.cons (.var 0) (.cons (.bin .add (.bin .mul (.int 3) (.var 1)) (.int 1)) (.cons (.ix (.var 2) (.int 2)) (.cons (.var 11) (.cons (.var 4) .nil)))))) .nil)))))) .nil)) .nil) (.cons (.ret (.tup (.cons (.str 3) (.cons (.var 6) (.cons (.call 89 (.cons (.var 0) (.cons (.bin .add (.bin .mul (.int 3) (.var 1)) (.int 1)) (.cons (.ix (.var 2) (.int 2)) (.cons (.var 11) (.cons (.var 4) .nil)))))) .nil))))) .nil))) .nil) (.cons (.if_ (.and_ (.bin .eq (.ix (.var 2) (.int 0)) (.str 5)) (.or_ (.bin .eq (.var 4) (.int 0)) (.bin .eq (.bin .mod (.var 5) (.int 3)) (.int 0)))) (.cons (.ret (.tup (.cons (.str 13) .nil))) .nil) .nil) (.cons (.if_ (.and_ (.bin .eq (.ix (.var 2) (.int 0)) (.str 1)) (.or_ (.bin .eq (.var 4) (.int 0)) (.bin .eq (.bin .mod (.var 5) (.int 2)) (.int 0)))) (.cons (.ret (.tup (.cons (.str 1) (.cons (.call 37 (.cons (.bin .fdiv (.var 5) (.int 2)) .nil)) .nil)))) .nil) .nil) (.cons (.if_ (.and_ (.bin .eq (.ix (.var 2) (.int 0)) (.str 2)) (.or_ (.bin .eq (.var 4) (.int 0)) (.bin .eq (.bin .mod (.var 5) (.int 2)) (.int 0)))) (.cons (.ret (.tup (.cons (.str 2) (.cons (.bin .eq (.bin .mod (.bin .fdiv (.var 5) (.int 2)) (.int 2)) (.int 0)) .nil)))) .nil) .nil) (.cons (.asg 8 (.dic [1, 2] (.cons (.tup (.cons (.str 12) (.cons (.ix (.lst (.cons (.str 16) (.cons (.str 17) .nil))) (.bin .mod (.bin .fdiv (.var 5) (.int 2)) (.int 2))) .nil))) (.cons (.tup (.cons (.str 12) (.cons (.ix (.lst (.cons (.str 18) (.cons (.str 19) .nil))) (.bin .mod (.bin .fdiv (.var 5) (.int 2)) (.int 2))) .nil))) .nil)))) (.cons (.asg 9 (.ife (.bin .eq (.ix (.var 2) (.int 0)) (.str 5)) (.lst (.cons (.ix (.var 2) (.int 1)) (.cons (.var 2) .nil))) (.bif .list (.cons (.slc (.var 2) (.int 1) .non) .nil)))) (.cons (.if_ (.bin .isin (.ix (.var 2) (.int 0)) (.var 8)) (.cons (.asg 9 (.lst (.cons (.tup (.cons (.str 1) .nil)) (.cons (.tup (.cons (.str 1) .nil)) .nil)))) .nil) .nil) (.cons (.asg 10 (.comp (.call 89 (.cons (.var 0) (.cons (.bin .add (.bin .add (.bin .mul (.int 3) (.var 1)) (.int 1)) (.var 12)) (.cons (.ix (.var 9) (.var 12)) (.cons (.var 3) (.cons (.var 4) .nil)))))) [12] (.rng1 (.int 2)) (.bl true))) (.cons (.ret (.bin .add (.get (.var 8) (.ix (.var 2) (.int 0)) (.tup (.cons (.get (.dic [4] (.cons (.str 4) .nil)) (.ix (.var 2) (.int 0)) (.str 15)) .nil))) (.bif .tuple (.cons (.var 10) .nil)))) .nil))))))))))))
/-- _law_taken: _law_script 0, _law_k 1, _law_goal 2, _law_names 3, _law_deep 4, _law_number 5, _law_a 6, _law_b 7, _law_kind 8, _law_second 9, _law_word 10, _law_one 11, _law_given 12, _law_last 13, _law_other 14 -/
def d91 : Def where
  names := ["_law_script", "_law_k", "_law_goal", "_law_names", "_law_deep", "_law_number", "_law_a", "_law_b", "_law_kind", "_law_second", "_law_word", "_law_one", "_law_given", "_law_last", "_law_other"]
  modes := [false, false, false, false, false]
  body := (.cons (.asg 5 (.call 2 (.cons (.var 0) (.cons (.bin .add (.var 1) (.int 2)) .nil)))) (.cons (.asg 6 (.call 38 (.cons (.bin .fdiv (.var 5) (.int 7)) .nil))) (.cons (.asg 7 (.call 38 (.cons (.bin .fdiv (.var 5) (.int 35)) .nil))) (.cons (.asg 8 (.call 39 (.cons (.var 0) (.cons (.bin .add (.bin .mul (.int 3) (.var 1)) (.int 7)) (.cons (.bin .add (.int 1) (.bin .mod (.bin .fdiv (.var 5) (.int 200)) (.int 2))) .nil))))) (.cons (.if_ (.bin .lt (.bin .mod (.var 5) (.int 7)) (.int 2)) (.cons (.ret (.call 92 (.cons (.var 0) (.cons (.var 1) (.cons (.var 2) (.cons (.var 3) (.cons (.var 4) (.cons (.var 6) (.cons (.var 8) .nil))))))))) .nil) .nil) (.cons (.if_ (.bin .eq (.bin .mod (.var 5) (.int 7)) (.int 2)) (.cons (.asg 11 (.call 89 (.cons (.var 0) (.cons (.bin .add (.bin .mul (.int 3) (.var 1)) (.int 1)) (.cons (.tup (.cons (.str 2) .nil)) (.cons (.var 3) (.cons (.var 4) .nil))))))) (.cons (.asg 14 (.call 89 (.cons (.var 0) (.cons (.bin .add (.bin .mul (.int 3) (.var 1)) (.int 2)) (.cons (.var 2) (.cons (.var 3) (.cons (.var 4) .nil))))))) (.cons (.ret (.tup (.cons (.str 9) (.cons (.var 11) (.cons (.var 14) (.cons (.call 89 (.cons (.var 0) (.cons (.bin .add (.bin .mul (.int 3) (.var 1)) (.int 3)) (.cons (.var 2) (.cons (.var 3) (.cons (.var 4) .nil)))))) .nil)))))) .nil))) .nil) (.cons (.if_ (.bin .lt (.bin .mod (.var 5) (.int 7)) (.int 5)) (.cons (.asg 11 (.call 89 (.cons (.var 0) (.cons (.bin .add (.bin .mul (.int 3) (.var 1)) (.int 1)) (.cons (.tup (.cons (.str 3) (.cons (.var 8) (.cons (.var 2) .nil)))) (.cons (.var 3) (.cons (.var 4) .nil))))))) (.cons (.ret (.tup (.cons (.str 7) (.cons (.var 11) (.cons (.call 89 (.cons (.var 0) (.cons (.bin .add (.bin .mul (.int 3) (.var 1)) (.int 2)) (.cons (.var 8) (.cons (.var 3) (.cons (.var 4) .nil)))))) .nil))))) .nil)) .nil) (.cons (.asg 9 (.call 39 (.cons (.var 0) (.cons (.bin .add (.bin .mul (.int 3) (.var 1)) (.int 8)) (.cons (.int 1) .nil))))) (.cons (.asg 10 (.ix (.lst (.cons (.str 10) (.cons (.str 11) .nil))) (.bin .sub (.bin .mod (.var 5) (.int 7)) (.int 5)))) (.cons (.asg 11 (.call 89 (.cons (.var 0) (.cons (.bin .add (.bin .mul (.int 3) (.var 1)) (.int 1)) (.cons (.ife (.bin .eq (.var 10) (.str 10)) (.tup (.cons (.str 4) (.cons (.var 8) (.cons (.var 9) .nil)))) (.tup (.cons (.str 5) (.cons (.var 8) .nil)))) (.cons (.var 3) (.cons (.var 4) .nil))))))) (.cons (.asg 12 (.slc (.lst (.cons (.tup (.cons (.var 6) (.cons (.var 8) .nil))) (.cons (.tup (.cons (.var 7) (.cons (.ife (.bin .eq (.var 10) (.str 10)) (.var 9) (.tup (.cons (.str 5) (.cons (.var 8) .nil)))) .nil))) .nil))) (.bif .int (.cons (.bin .eq (.var 6) (.var 7)) .nil)) .non)) (.cons (.asg 13 (.call 89 (.cons (.var 0) (.cons (.bin .add (.bin .mul (.int 3) (.var 1)) (.int 3)) (.cons (.var 2) (.cons (.call 40 (.cons (.var 3) (.cons (.var 12) .nil))) (.cons (.var 4) .nil))))))) (.cons (.if_ (.bin .eq (.var 10) (.str 10)) (.cons (.ret (.tup (.cons (.str 10) (.cons (.var 11) (.cons (.var 6) (.cons (.var 7) (.cons (.var 13) .nil))))))) .nil) .nil) (.cons (.ret (.tup (.cons (.str 11) (.cons (.var 11) (.cons (.call 89 (.cons (.var 0) (.cons (.bin .add (.bin .mul (.int 3) (.var 1)) (.int 2)) (.cons (.var 2) (.cons (.var 3) (.cons (.var 4) .nil)))))) (.cons (.var 6) (.cons (.var 7) (.cons (.var 13) .nil)))))))) .nil))))))))))))))
/-- _law_let: _law_script 0, _law_k 1, _law_goal 2, _law_names 3, _law_deep 4, _law_a 5, _law_kind 6, _law_number 7, _law_one 8, _law_wide 9 -/
def d92 : Def where
  names := ["_law_script", "_law_k", "_law_goal", "_law_names", "_law_deep", "_law_a", "_law_kind", "_law_number", "_law_one", "_law_wide"]
  modes := [false, false, false, false, false, false, false]
  body := (.cons (.asg 7 (.call 2 (.cons (.var 0) (.cons (.bin .add (.var 1) (.int 3)) .nil)))) (.cons (.asg 8 (.tup (.cons (.str 13) .nil))) (.cons (.asg 9 (.tup (.cons (.str 5) (.cons (.tup (.cons (.str 0) (.cons (.int 0) .nil))) .nil)))) (.cons (.if_ (.bin .eq (.bin .mod (.var 7) (.int 4)) (.int 0)) (.cons (.asg 8 (.tup (.cons (.str 3) (.cons (.str 21) (.cons (.tup (.cons (.str 6) (.cons (.str 21) .nil))) .nil))))) (.cons (.asg 9 (.tup (.cons (.str 3) (.cons (.tup (.cons (.str 0) (.cons (.int 0) .nil))) (.cons (.tup (.cons (.str 0) (.cons (.int 0) .nil))) .nil))))) .nil)) (.cons (.if_ (.bin .eq (.bin .mod (.var 7) (.int 4)) (.int 1)) (.cons (.asg 8 (.tup (.cons (.str 3) (.cons (.str 21) (.cons (.tup (.cons (.str 4) (.cons (.tup (.cons (.str 6) (.cons (.str 21) .nil))) (.cons (.tup (.cons (.str 6) (.cons (.str 21) .nil))) .nil)))) .nil))))) (.cons (.asg 9 (.tup (.cons (.str 3) (.cons (.tup (.cons (.str 0) (.cons (.int 0) .nil))) (.cons (.tup (.cons (.str 4) (.cons (.tup (.cons (.str 0) (.cons (.int 0) .nil))) (.cons (.tup (.cons (.str 0) (.cons (.int 0) .nil))) .nil)))) .nil))))) .nil)) (.cons (.if_ (.bin .eq (.bin .mod (.var 7) (.int 4)) (.int 2)) (.cons (.asg 8 (.call 89 (.cons (.var 0) (.cons (.bin .add (.bin .mul (.int 3) (.var 1)) (.int 1)) (.cons (.var 6) (.cons (.var 3) (.cons (.var 4) .nil))))))) (.cons (.asg 9 (.var 6)) .nil)) .nil) .nil)) .nil)) (.cons (.ret (.tup (.cons (.str 8) (.cons (.var 5) (.cons (.var 8) (.cons (.call 89 (.cons (.var 0) (.cons (.bin .add (.bin .mul (.int 3) (.var 1)) (.int 2)) (.cons (.var 2) (.cons (.call 40 (.cons (.var 3) (.cons (.lst (.cons (.tup (.cons (.var 5) (.cons (.var 9) .nil))) .nil)) .nil))) (.cons (.var 4) .nil)))))) .nil)))))) .nil)))))
/-- _law_is_value: _law_tree 0 -/
def d93 : Def where
  names := ["_law_tree"]
  modes := [false]
  body := (.cons (.if_ (.bin .isin (.ix (.var 0) (.int 0)) (.tup (.cons (.str 4) (.cons (.str 15) .nil)))) (.cons (.ret (.and_ (.call 93 (.cons (.ix (.var 0) (.int 1)) .nil)) (.call 93 (.cons (.ix (.var 0) (.int 2)) .nil)))) .nil) .nil) (.cons (.ret (.bin .isin (.ix (.var 0) (.int 0)) (.tup (.cons (.str 1) (.cons (.str 2) (.cons (.str 13) (.cons (.str 3) (.cons (.str 14) .nil)))))))) .nil))
/-- _law_give: _law_tree 0, _law_name_here 1, _law_one 2, _law_word 3, _law_given 4, _law_found 5, _law_k 6, _law_hides 7 -/
def d94 : Def where
  names := ["_law_tree", "_law_name_here", "_law_one", "_law_word", "_law_given", "_law_found", "_law_k", "_law_hides"]
  modes := [false, false, false]
  body := (.cons (.asg 3 (.ix (.var 0) (.int 0))) (.cons (.if_ (.bin .eq (.var 3) (.str 6)) (.cons (.ret (.ife (.bin .eq (.ix (.var 0) (.int 1)) (.var 1)) (.var 2) (.var 0))) .nil) .nil) (.cons (.asg 4 (.lst .nil)) (.cons (.if_ (.bin .isin (.var 3) (.tup (.cons (.str 3) (.cons (.str 14) (.cons (.str 8) .nil))))) (.cons (.asg 4 (.bin .add (.lst (.cons (.ix (.var 0) (.int 1)) .nil)) (.bin .mul (.lst (.cons (.ix (.var 0) (.int 2)) .nil)) (.bif .int (.cons (.bin .eq (.var 3) (.str 14)) .nil))))) .nil) (.cons (.if_ (.bin .isin (.var 3) (.tup (.cons (.str 10) (.cons (.str 11) .nil)))) (.cons (.asg 4 (.bif .list (.cons (.slc (.var 0) (.neg (.int 3)) (.neg (.int 1))) .nil))) .nil) .nil) .nil)) (.cons (.asgO 5 (.lst .nil)) (.cons (.for_ [6] (.rng1 (.bif .len (.cons (.var 0) .nil))) (.cons (.asg 7 (.and_ (.bin .eq (.var 6) (.bin .sub (.bif .len (.cons (.var 0) .nil)) (.int 1))) (.bin .isin (.var 1) (.var 4)))) (.cons (.if_ (.and_ (.isi (.ix (.var 0) (.var 6)) .tuple) (.not_ (.var 7))) (.cons (.app (5, none) (.call 94 (.cons (.ix (.var 0) (.var 6)) (.cons (.var 1) (.cons (.var 2) .nil))))) .nil) (.cons (.app (5, none) (.ix (.var 0) (.var 6))) .nil)) .nil))) (.cons (.ret (.bif .tuple (.cons (.var 5) .nil))) .nil)))))))
/-- _law_give_two: _law_tree 0, _law_names 1, _law_values 2 -/
def d95 : Def where
  names := ["_law_tree", "_law_names", "_law_values"]
  modes := [false, false, false]
  body := (.cons (.ret (.call 94 (.cons (.call 94 (.cons (.var 0) (.cons (.ix (.var 1) (.int 1)) (.cons (.ix (.var 2) (.int 1)) .nil)))) (.cons (.ix (.var 1) (.int 0)) (.cons (.ix (.var 2) (.int 0)) .nil))))) .nil)
/-- _law_first: _law_tree 0, _law_places 1, _law_k 2 -/
def d96 : Def where
  names := ["_law_tree", "_law_places", "_law_k"]
  modes := [false]
  body := (.cons (.asg 1 (.dic [7, 4, 15, 12, 8, 9, 10, 11] (.cons (.lst (.cons (.int 1) (.cons (.int 2) .nil))) (.cons (.lst (.cons (.int 1) (.cons (.int 2) .nil))) (.cons (.lst (.cons (.int 1) (.cons (.int 2) .nil))) (.cons (.lst (.cons (.int 2) (.cons (.int 3) .nil))) (.cons (.lst (.cons (.int 2) .nil)) (.cons (.lst (.cons (.int 1) .nil)) (.cons (.lst (.cons (.int 1) .nil)) (.cons (.lst (.cons (.int 1) .nil)) .nil)))))))))) (.cons (.for_ [2] (.seq (.get (.var 1) (.ix (.var 0) (.int 0)) (.lst .nil))) (.cons (.if_ (.not_ (.call 93 (.cons (.ix (.var 0) (.var 2)) .nil))) (.cons (.ret (.var 2)) .nil) .nil) .nil)) (.cons (.ret (.int 0)) .nil)))
/-- _law_step: _law_tree 0, _law_at 1, _law_inner 2, _law_deed 3, _law_names 4, _law_one 5, _law_other 6, _law_good 7, _law_many 8 -/
def d97 : Def where
  names := ["_law_tree", "_law_at", "_law_inner", "_law_deed", "_law_names", "_law_one", "_law_other", "_law_good", "_law_many"]
  modes := [false]
  body := (.cons (.asg 1 (.call 96 (.cons (.var 0) .nil))) (.cons (.if_ (.bin .gt (.var 1) (.int 0)) (.cons (.asg 2 (.call 97 (.cons (.ix (.var 0) (.var 1)) .nil))) (.cons (.if_ (.bin .eq (.var 2) (.str 30)) (.cons (.ret (.var 2)) .nil) .nil) (.cons (.ret (.tup (.cons (.bin .add (.bin .add (.slc (.var 0) .non (.var 1)) (.tup (.cons (.ix (.var 2) (.int 0)) .nil))) (.slc (.var 0) (.bin .add (.var 1) (.int 1)) .non)) (.cons (.ix (.var 2) (.int 1)) .nil)))) .nil))) .nil) (.cons (.if_ (.and_ (.bin .eq (.ix (.var 0) (.int 0)) (.str 7)) (.bin .isin (.ix (.ix (.var 0) (.int 1)) (.int 0)) (.tup (.cons (.str 3) (.cons (.str 14) .nil))))) (.cons (.asg 3 (.ix (.var 0) (.int 1))) (.cons (.asg 4 (.lst (.cons (.ix (.var 3) (.int 1)) (.cons (.ix (.var 3) (.neg (.int 2))) .nil)))) (.cons (.ret (.tup (.cons (.call 95 (.cons (.ix (.var 3) (.neg (.int 1))) (.cons (.var 4) (.cons (.lst (.cons (.var 3) (.cons (.ix (.var 0) (.int 2)) .nil))) .nil)))) (.cons (.bl true) .nil)))) .nil))) .nil) (.cons (.if_ (.bin .eq (.ix (.var 0) (.int 0)) (.str 8)) (.cons (.ret (.tup (.cons (.call 94 (.cons (.ix (.var 0) (.int 3)) (.cons (.ix (.var 0) (.int 1)) (.cons (.ix (.var 0) (.int 2)) .nil)))) (.cons (.bl false) .nil)))) .nil) .nil) (.cons (.if_ (.and_ (.bin .eq (.ix (.var 0) (.int 0)) (.str 9)) (.bin .eq (.ix (.ix (.var 0) (.int 1)) (.int 0)) (.str 2))) (.cons (.ret (.tup (.cons (.ix (.var 0) (.bin .add (.int 2) (.bif .int (.cons (.not_ (.ix (.ix (.var 0) (.int 1)) (.int 1))) .nil)))) (.cons (.bl false) .nil)))) .nil) .nil) (.cons (.if_ (.and_ (.bin .eq (.ix (.var 0) (.int 0)) (.str 10)) (.bin .eq (.ix (.ix (.var 0) (.int 1)) (.int 0)) (.str 4))) (.cons (.ret (.tup (.cons (.call 95 (.cons (.ix (.var 0) (.int 4)) (.cons (.slc (.var 0) (.int 2) (.int 4)) (.cons (.slc (.ix (.var 0) (.int 1)) (.int 1) .non) .nil)))) (.cons (.bl false) .nil)))) .nil) .nil) (.cons (.if_ (.and_ (.bin .eq (.ix (.var 0) (.int 0)) (.str 11)) (.bin .isin (.ix (.ix (.var 0) (.int 1)) (.int 0)) (.tup (.cons (.str 13) (.cons (.str 15) .nil))))) (.cons (.if_ (.bin .eq (.ix (.ix (.var 0) (.int 1)) (.int 0)) (.str 13)) (.cons (.ret (.tup (.cons (.ix (.var 0) (.int 2)) (.cons (.bl false) .nil)))) .nil) .nil) (.cons (.ret (.tup (.cons (.call 95 (.cons (.ix (.var 0) (.int 5)) (.cons (.slc (.var 0) (.int 3) (.int 5)) (.cons (.slc (.ix (.var 0) (.int 1)) (.int 1) .non) .nil)))) (.cons (.bl false) .nil)))) .nil)) .nil) (.cons (.if_ (.and_ (.bin .eq (.ix (.var 0) (.int 0)) (.str 12)) (.and_ (.bin .eq (.ix (.ix (.var 0) (.int 2)) (.int 0)) (.str 1)) (.bin .eq (.ix (.ix (.var 0) (.int 3)) (.int 0)) (.str 1)))) (.cons (.asg 5 (.ix (.ix (.var 0) (.int 2)) (.int 1))) (.cons (.asg 6 (.ix (.ix (.var 0) (.int 3)) (.int 1))) (.cons (.if_ (.bin .isin (.ix (.var 0) (.int 1)) (.tup (.cons (.str 16) (.cons (.str 17) .nil)))) (.cons (.asg 8 (.ife (.bin .eq (.ix (.var 0) (.int 1)) (.str 16)) (.bin .add (.var 5) (.var 6)) (.bin .sub (.var 5) (.var 6)))) (.cons (.ret (.tup (.cons (.tup (.cons (.str 1) (.cons (.var 8) .nil))) (.cons (.bl false) .nil)))) .nil)) .nil) (.cons (.asg 7 (.ife (.bin .eq (.ix (.var 0) (.int 1)) (.str 18)) (.bin .lt (.var 5) (.var 6)) (.bin .eq (.var 5) (.var 6)))) (.cons (.ret (.tup (.cons (.tup (.cons (.str 2) (.cons (.var 7) .nil))) (.cons (.bl false) .nil)))) .nil))))) .nil) (.cons (.ret (.str 30)) .nil)))))))))
/-- _law_alike: _law_one 0, _law_other 1, _law_same 2, _law_k 3 -/
def d98 : Def where
  names := ["_law_one", "_law_other", "_law_same", "_law_k"]
  modes := [false, false]
  body := (.cons (.if_ (.and_ (.isi (.var 0) .tuple) (.isi (.var 1) .tuple)) (.cons (.asg 2 (.comp (.call 98 (.cons (.ix (.var 0) (.var 3)) (.cons (.ix (.var 1) (.var 3)) .nil))) [3] (.rng1 (.bif .min2 (.cons (.bif .len (.cons (.var 0) .nil)) (.cons (.bif .len (.cons (.var 1) .nil)) .nil)))) (.bl true))) (.cons (.ret (.and_ (.bin .eq (.bif .len (.cons (.var 0) .nil)) (.bif .len (.cons (.var 1) .nil))) (.bif .all (.cons (.var 2) .nil)))) .nil)) .nil) (.cons (.ret (.and_ (.bin .eq (.isi (.var 0) .bool) (.isi (.var 1) .bool)) (.bin .eq (.var 0) (.var 1)))) .nil))
/-- _law_either: _law_script 0, _law_base 1, _law_deep 2 -/
def d99 : Def where
  names := ["_law_script", "_law_base", "_law_deep"]
  modes := [false, false, false]
  body := (.cons (.if_ (.bin .eq (.bin .mod (.call 2 (.cons (.var 0) (.cons (.var 1) .nil))) (.int 2)) (.int 0)) (.cons (.ret (.call 47 (.cons (.var 0) (.cons (.bin .add (.var 1) (.int 1)) (.cons (.lst .nil) (.cons (.var 2) .nil)))))) .nil) .nil) (.cons (.ret (.call 89 (.cons (.var 0) (.cons (.bin .add (.var 1) (.int 1)) (.cons (.call 39 (.cons (.var 0) (.cons (.bin .add (.var 1) (.int 2)) (.cons (.int 2) .nil)))) (.cons (.lst .nil) (.cons (.var 2) .nil))))))) .nil))
/-- _law_stepped: _law_tree 0, _law_kept 1, _law_found 2, e 3, _law_good 4 -/
def d100 : Def where
  names := ["_law_tree", "_law_kept", "_law_found", "e", "_law_good"]
  modes := [false]
  body := (.cons (.asg 1 .non) (.cons (.asg 2 .non) (.cons (.tryE 2 (.call 84 (.cons (.var 0) .nil)) 0 (.keep 3 1)) (.cons (.if_ (.bin .isnx (.var 1) .non) (.cons (.asg 4 (.and_ (.isi (.var 1) (.exc [4])) (.isi (.var 1) (.exc [5])))) (.cons (.ret (.ife (.and_ (.var 4) (.not_ (.isi (.var 1) (.exc [2, 3, 1])))) (.str 30) (.str 28))) .nil)) .nil) (.cons (.ret (.var 2)) .nil)))))
/-- law: _law_script 0, _law_tree 1, _law_k 2, _law_ends 3, _law_found 4, _law_due 5 -/
def d101 : Def where
  names := ["_law_script", "_law_tree", "_law_k", "_law_ends", "_law_found", "_law_due"]
  modes := [false]
  body := (.cons (.asg 1 (.call 99 (.cons (.var 0) (.cons (.int 0) (.cons (.bin .add (.int 1) (.bin .mod (.call 2 (.cons (.var 0) (.cons (.int 62) .nil))) (.int 4))) .nil))))) (.cons (.for_ [2] (.rng1 (.int 8)) (.cons (.asg 3 (.call 82 (.cons (.var 1) .nil))) (.cons (.if_ (.or_ (.not_ (.isi (.var 3) .bool)) (.bin .ne (.var 3) (.call 93 (.cons (.var 1) .nil)))) (.cons (.ret (.bl false)) .nil) .nil) (.cons (.asg 4 (.call 100 (.cons (.var 1) .nil))) (.cons (.if_ (.var 3) (.cons (.ret (.bin .isx (.var 4) .non)) .nil) .nil) (.cons (.asg 5 (.call 97 (.cons (.var 1) .nil))) (.cons (.if_ (.bin .eq (.var 5) (.str 30)) (.cons (.ret (.bin .eq (.var 4) (.str 30))) .nil) .nil) (.cons (.if_ (.or_ (.not_ (.isi (.var 4) .tuple)) (.not_ (.call 98 (.cons (.var 4) (.cons (.var 5) .nil))))) (.cons (.ret (.bl false)) .nil) .nil) (.cons (.asg 1 (.ix (.var 4) (.int 0))) .nil))))))))) (.cons (.ret (.bl true)) .nil)))
/-- run: tree 0, most 1, calls 2, told 3 -/
def d107 : Def where
  names := ["tree", "most", "calls", "told"]
  modes := [false, false]
  body := (.cons (.asg 2 (.int 0)) (.cons (.asg 3 (.call 84 (.cons (.var 0) .nil))) (.cons (.while_ (.bin .isnx (.var 3) .non) (.cons (.asg 2 (.bin .add (.var 2) (.bif .int (.cons (.ix (.var 3) (.int 1)) .nil)))) (.cons (.if_ (.bin .gt (.var 2) (.var 1)) (.cons (.ret .non) .nil) .nil) (.cons (.asg 0 (.ix (.var 3) (.int 0))) (.cons (.asg 3 (.call 84 (.cons (.var 0) .nil))) .nil))))) (.cons (.ret (.tup (.cons (.var 0) (.cons (.var 2) .nil)))) .nil))))
/-- shown: value 0 -/
def d108 : Def where
  names := ["value"]
  modes := [false]
  body := (.cons (.if_ (.bin .isin (.ix (.var 0) (.int 0)) (.tup (.cons (.str 3) (.cons (.str 14) .nil)))) (.cons (.ret (.tup (.cons (.str 3) .nil))) .nil) .nil) (.cons (.if_ (.bin .isin (.ix (.var 0) (.int 0)) (.tup (.cons (.str 4) (.cons (.str 15) .nil)))) (.cons (.ret (.tup (.cons (.ix (.var 0) (.int 0)) (.cons (.call 108 (.cons (.ix (.var 0) (.int 1)) .nil)) (.cons (.call 108 (.cons (.ix (.var 0) (.int 2)) .nil)) .nil))))) .nil) .nil) (.cons (.ret (.var 0)) .nil)))
/-- _law_run: _law_tree 0, _law_most 1, _law_calls 2, _law_behind 3 -/
def d109 : Def where
  names := ["_law_tree", "_law_most", "_law_calls", "_law_behind"]
  modes := [false, false]
  body := (.cons (.asg 2 (.int 0)) (.cons (.while_ (.not_ (.call 93 (.cons (.var 0) .nil))) (.cons (.asg 3 (.call 97 (.cons (.var 0) .nil))) (.cons (.if_ (.bin .eq (.var 3) (.str 30)) (.cons (.ret (.str 30)) .nil) .nil) (.cons (.asg 2 (.bin .add (.var 2) (.bif .int (.cons (.ix (.var 3) (.int 1)) .nil)))) (.cons (.if_ (.bin .gt (.var 2) (.var 1)) (.cons (.ret .non) .nil) .nil) (.cons (.asg 0 (.ix (.var 3) (.int 0))) .nil)))))) (.cons (.ret (.tup (.cons (.var 0) (.cons (.var 2) .nil)))) .nil)))
/-- _law_show: _law_value 0 -/
def d110 : Def where
  names := ["_law_value"]
  modes := [false]
  body := (.cons (.if_ (.bin .isin (.ix (.var 0) (.int 0)) (.tup (.cons (.str 3) (.cons (.str 14) .nil)))) (.cons (.ret (.tup (.cons (.str 3) .nil))) .nil) .nil) (.cons (.if_ (.bin .isin (.ix (.var 0) (.int 0)) (.tup (.cons (.str 4) (.cons (.str 15) .nil)))) (.cons (.ret (.tup (.cons (.ix (.var 0) (.int 0)) (.cons (.call 110 (.cons (.ix (.var 0) (.int 1)) .nil)) (.cons (.call 110 (.cons (.ix (.var 0) (.int 2)) .nil)) .nil))))) .nil) .nil) (.cons (.ret (.var 0)) .nil)))
/-- _law_run_told: _law_tree 0, _law_most 1, _law_kept 2, _law_found 3, e 4 -/
def d111 : Def where
  names := ["_law_tree", "_law_most", "_law_kept", "_law_found", "e"]
  modes := [false, false]
  body := (.cons (.asg 2 .non) (.cons (.asg 3 .non) (.cons (.tryE 3 (.call 107 (.cons (.var 0) (.cons (.var 1) .nil))) 0 (.keep 4 2)) (.cons (.if_ (.bin .isnx (.var 2) .non) (.cons (.ret (.ife (.and_ (.isi (.var 2) (.exc [4])) (.not_ (.isi (.var 2) (.exc [2, 3, 1])))) (.str 30) (.str 28))) .nil) .nil) (.cons (.ret (.var 3)) .nil)))))
/-- law: _law_script 0, _law_tree 1, _law_most 2, _law_found 3, _law_due 4 -/
def d112 : Def where
  names := ["_law_script", "_law_tree", "_law_most", "_law_found", "_law_due"]
  modes := [false]
  body := (.cons (.asg 1 (.call 99 (.cons (.var 0) (.cons (.int 0) (.cons (.bin .add (.int 1) (.bin .mod (.call 2 (.cons (.var 0) (.cons (.int 62) .nil))) (.int 4))) .nil))))) (.cons (.asg 2 (.bin .mod (.call 2 (.cons (.var 0) (.cons (.int 61) .nil))) (.int 7))) (.cons (.asg 3 (.call 111 (.cons (.var 1) (.cons (.var 2) .nil)))) (.cons (.asg 4 (.call 109 (.cons (.var 1) (.cons (.var 2) .nil)))) (.cons (.if_ (.or_ (.bin .isx (.var 4) .non) (.bin .eq (.var 4) (.str 30))) (.cons (.ret (.bin .eq (.var 3) (.var 4))) .nil) .nil) (.cons (.if_ (.or_ (.not_ (.isi (.var 3) .tuple)) (.not_ (.call 98 (.cons (.var 3) (.cons (.var 4) .nil))))) (.cons (.ret (.bl false)) .nil) .nil) (.cons (.ret (.call 98 (.cons (.call 108 (.cons (.ix (.var 3) (.int 0)) .nil)) (.cons (.call 110 (.cons (.ix (.var 4) (.int 0)) .nil)) .nil)))) .nil)))))))
/-- _law_data: _law_script 0, _law_k 1, _law_deep 2, _law_number 3 -/
def d113 : Def where
  names := ["_law_script", "_law_k", "_law_deep", "_law_number"]
  modes := [false, false, false]
  body := (.cons (.asg 3 (.call 2 (.cons (.var 0) (.cons (.var 1) .nil)))) (.cons (.if_ (.or_ (.bin .eq (.var 2) (.int 0)) (.bin .lt (.bin .mod (.var 3) (.int 4)) (.int 1))) (.cons (.ret (.ix (.lst (.cons (.tup (.cons (.str 1) .nil)) (.cons (.tup (.cons (.str 2) .nil)) .nil))) (.bin .mod (.bin .fdiv (.var 3) (.int 4)) (.int 2)))) .nil) .nil) (.cons (.if_ (.bin .lt (.bin .mod (.var 3) (.int 4)) (.int 3)) (.cons (.ret (.tup (.cons (.str 5) (.cons (.call 113 (.cons (.var 0) (.cons (.bin .add (.bin .mul (.int 2) (.var 1)) (.int 1)) (.cons (.bin .sub (.var 2) (.int 1)) .nil)))) .nil)))) .nil) .nil) (.cons (.ret (.tup (.cons (.str 4) (.cons (.call 113 (.cons (.var 0) (.cons (.bin .add (.bin .mul (.int 2) (.var 1)) (.int 1)) (.cons (.bin .sub (.var 2) (.int 1)) .nil)))) (.cons (.call 113 (.cons (.var 0) (.cons (.bin .add (.bin .mul (.int 2) (.var 1)) (.int 2)) (.cons (.bin .sub (.var 2) (.int 1)) .nil)))) .nil))))) .nil))))
/-- _law_is_of: _law_value 0, _law_kind 1 -/
def d114 : Def where
  names := ["_law_value", "_law_kind"]
  modes := [false, false]
  body := (.cons (.if_ (.or_ (.not_ (.isi (.var 0) .tuple)) (.not_ (.var 0))) (.cons (.ret (.bl false)) .nil) .nil) (.cons (.if_ (.bin .eq (.ix (.var 1) (.int 0)) (.str 1)) (.cons (.ret (.and_ (.bin .eq (.bif .len (.cons (.var 0) .nil)) (.int 2)) (.and_ (.bin .eq (.ix (.var 0) (.int 0)) (.str 1)) (.call 3 (.cons (.ix (.var 0) (.int 1)) .nil))))) .nil) .nil) (.cons (.if_ (.bin .eq (.ix (.var 1) (.int 0)) (.str 2)) (.cons (.ret (.and_ (.bin .eq (.bif .len (.cons (.var 0) .nil)) (.int 2)) (.and_ (.bin .eq (.ix (.var 0) (.int 0)) (.str 2)) (.isi (.ix (.var 0) (.int 1)) .bool)))) .nil) .nil) (.cons (.if_ (.and_ (.bin .eq (.ix (.var 1) (.int 0)) (.str 5)) (.bin .eq (.var 0) (.tup (.cons (.str 13) .nil)))) (.cons (.ret (.bl true)) .nil) .nil) (.cons (.if_ (.or_ (.bin .ne (.bif .len (.cons (.var 0) .nil)) (.int 3)) (.bin .ne (.ix (.var 0) (.int 0)) (.dx (.dic [4, 5] (.cons (.str 4) (.cons (.str 15) .nil))) (.ix (.var 1) (.int 0))))) (.cons (.ret (.bl false)) .nil) .nil) (.cons (.ret (.and_ (.call 114 (.cons (.ix (.var 0) (.int 1)) (.cons (.ix (.var 1) (.int 1)) .nil))) (.call 114 (.cons (.ix (.var 0) (.int 2)) (.cons (.ife (.bin .eq (.ix (.var 1) (.int 0)) (.str 5)) (.var 1) (.ix (.var 1) (.int 2))) .nil))))) .nil))))))
/-- law: _law_script 0, _law_kind 1, _law_tree 2, _law_found 3, _law_stuck 4 -/
def d115 : Def where
  names := ["_law_script", "_law_kind", "_law_tree", "_law_found", "_law_stuck"]
  modes := [false]
  body := (.cons (.asg 1 (.call 113 (.cons (.var 0) (.cons (.int 0) (.cons (.int 3) .nil))))) (.cons (.asg 2 (.call 89 (.cons (.var 0) (.cons (.int 1) (.cons (.var 1) (.cons (.lst .nil) (.cons (.bin .add (.int 1) (.bin .mod (.call 2 (.cons (.var 0) (.cons (.int 60) .nil))) (.int 3))) .nil))))))) (.cons (.asg 3 .non) (.cons (.asg 4 (.bl false)) (.cons (.tryE 3 (.call 107 (.cons (.var 2) (.cons (.bin .mod (.call 2 (.cons (.var 0) (.cons (.int 61) .nil))) (.int 7)) .nil))) 0 (.set 4 true)) (.cons (.if_ (.var 4) (.cons (.ret (.bl false)) .nil) .nil) (.cons (.if_ (.bin .isx (.var 3) .non) (.cons (.ret (.bl true)) .nil) .nil) (.cons (.ret (.and_ (.isi (.var 3) .tuple) (.and_ (.bin .eq (.bif .len (.cons (.var 3) .nil)) (.int 2)) (.and_ (.call 3 (.cons (.ix (.var 3) (.int 1)) .nil)) (.call 114 (.cons (.ix (.var 3) (.int 0)) (.cons (.var 1) .nil))))))) .nil))))))))
def PD : Nat → Option Def
  | 0 => some d0
  | 1 => some d1
  | 2 => some d2
  | 3 => some d3
  | 4 => some d4
  | 5 => some d5
  | 6 => some d6
  | 7 => some d7
  | 8 => some d8
  | 9 => some d9
  | 10 => some d10
  | 11 => some d11
  | 12 => some d12
  | 13 => some d13
  | 14 => some d14
  | 15 => some d15
  | 16 => some d16
  | 17 => some d17
  | 18 => some d18
  | 19 => some d19
  | 20 => some d20
  | 21 => some d21
  | 22 => some d22
  | 23 => some d23
  | 24 => some d24
  | 25 => some d25
  | 26 => some d26
  | 27 => some d27
  | 28 => some d28
  | 29 => some d29
  | 32 => some d32
  | 33 => some d33
  | 34 => some d34
  | 35 => some d35
  | 37 => some d37
  | 38 => some d38
  | 39 => some d39
  | 40 => some d40
  | 47 => some d47
  | 48 => some d48
  | 80 => some d80
  | 81 => some d81
  | 82 => some d82
  | 83 => some d83
  | 84 => some d84
  | 85 => some d85
  | 86 => some d86
  | 87 => some d87
  | 88 => some d88
  | 89 => some d89
  | 90 => some d90
  | 91 => some d91
  | 92 => some d92
  | 93 => some d93
  | 94 => some d94
  | 95 => some d95
  | 96 => some d96
  | 97 => some d97
  | 98 => some d98
  | 99 => some d99
  | 100 => some d100
  | 101 => some d101
  | 107 => some d107
  | 108 => some d108
  | 109 => some d109
  | 110 => some d110
  | 111 => some d111
  | 112 => some d112
  | 113 => some d113
  | 114 => some d114
  | 115 => some d115
  | _ => none
end KS

set_option Elab.async false
set_option linter.all false
set_option maxRecDepth 100000
namespace K11
open PySem L2 KS
def top (i : Nat) : Stmt := PySem.Challenge.pw_kindspan_k11_no_join.main.body.getD i (.Pass ⟨0, 0, 0, 0⟩)
def tb : Tb where
  fn := fun i => match i with
    | 0 => some "filled"
    | 1 => some "_law_cell"
    | 2 => some "_law_mix"
    | 3 => some "_law_whole"
    | 4 => some "_law_gap"
    | 5 => some "_law_kind"
    | 7 => some "_law_gaps"
    | 8 => some "_law_is_kind"
    | 10 => some "gaps"
    | 12 => some "_law_pairs"
    | 19 => some "joined"
    | 20 => some "grown"
    | 21 => some "_law_filled"
    | 22 => some "_law_wider"
    | 23 => some "_law_told"
    | 24 => some "_law_joins"
    | 27 => some "_law_solve"
    | 28 => some "law"
    | _ => none
  modes := fun i => match PD i with
    | some d => d.modes
    | none => []
  gl := fun i => match i with
    | 0 => some "GAP"
    | _ => none
  xs := true
  tr := true
  xc := fun c => match c with
    | 0 => true
    | 1 => true
    | 2 => true
    | 4 => true
    | _ => false
theorem chk0 : chkSs tb d0.names (defScope (top 7)) d0.modes d0.body (defBody (top 7)) = true := by decide +kernel
theorem scp0 : FnScope d0.names ["kind", "told"] (defScope (top 7)) := ⟨rfl, rfl, rfl, by decide +kernel, rfl, by decide +kernel, by decide +kernel⟩
theorem chk1 : chkSs tb d10.names (defScope (top 8)) d10.modes d10.body (defBody (top 8)) = true := by decide +kernel
theorem scp1 : FnScope d10.names ["kind"] (defScope (top 8)) := ⟨rfl, rfl, rfl, by decide +kernel, rfl, by decide +kernel, by decide +kernel⟩
theorem chk2 : chkSs tb d19.names (defScope (top 9)) d19.modes d19.body (defBody (top 9)) = true := by decide +kernel
theorem scp2 : FnScope d19.names ["one", "other"] (defScope (top 9)) := ⟨rfl, rfl, rfl, by decide +kernel, rfl, by decide +kernel, by decide +kernel⟩
theorem chk3 : chkSs tb d20.names (defScope (top 10)) d20.modes d20.body (defBody (top 10)) = true := by decide +kernel
theorem scp3 : FnScope d20.names ["told", "number", "kind"] (defScope (top 10)) := ⟨rfl, rfl, rfl, by decide +kernel, rfl, by decide +kernel, by decide +kernel⟩
theorem chk4 : chkSs tb d1.names (defScope (top 12)) d1.modes d1.body (defBody (top 12)) = true := by decide +kernel
theorem scp4 : FnScope d1.names ["_law_script", "_law_k"] (defScope (top 12)) := ⟨rfl, rfl, rfl, by decide +kernel, rfl, by decide +kernel, by decide +kernel⟩
theorem chk5 : chkSs tb d2.names (defScope (top 13)) d2.modes d2.body (defBody (top 13)) = true := by decide +kernel
theorem scp5 : FnScope d2.names ["_law_script", "_law_k"] (defScope (top 13)) := ⟨rfl, rfl, rfl, by decide +kernel, rfl, by decide +kernel, by decide +kernel⟩
theorem chk6 : chkSs tb d3.names (defScope (top 14)) d3.modes d3.body (defBody (top 14)) = true := by decide +kernel
theorem scp6 : FnScope d3.names ["_law_found"] (defScope (top 14)) := ⟨rfl, rfl, rfl, by decide +kernel, rfl, by decide +kernel, by decide +kernel⟩
theorem chk7 : chkSs tb d4.names (defScope (top 15)) d4.modes d4.body (defBody (top 15)) = true := by decide +kernel
theorem scp7 : FnScope d4.names ["_law_number"] (defScope (top 15)) := ⟨rfl, rfl, rfl, by decide +kernel, rfl, by decide +kernel, by decide +kernel⟩
theorem chk8 : chkSs tb d5.names (defScope (top 16)) d5.modes d5.body (defBody (top 16)) = true := by decide +kernel
theorem scp8 : FnScope d5.names ["_law_script", "_law_k", "_law_deep"] (defScope (top 16)) := ⟨rfl, rfl, rfl, by decide +kernel, rfl, by decide +kernel, by decide +kernel⟩
theorem chk9 : chkSs tb d21.names (defScope (top 17)) d21.modes d21.body (defBody (top 17)) = true := by decide +kernel
theorem scp9 : FnScope d21.names ["_law_kind_here", "_law_told_here"] (defScope (top 17)) := ⟨rfl, rfl, rfl, by decide +kernel, rfl, by decide +kernel, by decide +kernel⟩
theorem chk10 : chkSs tb d7.names (defScope (top 18)) d7.modes d7.body (defBody (top 18)) = true := by decide +kernel
theorem scp10 : FnScope d7.names ["_law_kind_here"] (defScope (top 18)) := ⟨rfl, rfl, rfl, by decide +kernel, rfl, by decide +kernel, by decide +kernel⟩
theorem chk11 : chkSs tb d12.names (defScope (top 19)) d12.modes d12.body (defBody (top 19)) = true := by decide +kernel
theorem scp11 : FnScope d12.names ["_law_wide", "_law_kind_here"] (defScope (top 19)) := ⟨rfl, rfl, rfl, by decide +kernel, rfl, by decide +kernel, by decide +kernel⟩
theorem chk12 : chkSs tb d22.names (defScope (top 20)) d22.modes d22.body (defBody (top 20)) = true := by decide +kernel
theorem scp12 : FnScope d22.names ["_law_wide", "_law_kind_here"] (defScope (top 20)) := ⟨rfl, rfl, rfl, by decide +kernel, rfl, by decide +kernel, by decide +kernel⟩
theorem chk13 : chkSs tb d8.names (defScope (top 21)) d8.modes d8.body (defBody (top 21)) = true := by decide +kernel
theorem scp13 : FnScope d8.names ["_law_found"] (defScope (top 21)) := ⟨rfl, rfl, rfl, by decide +kernel, rfl, by decide +kernel, by decide +kernel⟩
theorem chk14 : chkSs tb d27.names (defScope (top 22)) d27.modes d27.body (defBody (top 22)) = true := by decide +kernel
theorem scp14 : FnScope d27.names ["_law_pairs_here"] (defScope (top 22)) := ⟨rfl, rfl, rfl, by decide +kernel, rfl, by decide +kernel, by decide +kernel⟩
theorem chk15 : chkSs tb d23.names (defScope (top 23)) d23.modes d23.body (defBody (top 23)) = true := by decide +kernel
theorem scp15 : FnScope d23.names ["_law_one", "_law_other"] (defScope (top 23)) := ⟨rfl, rfl, rfl, by decide +kernel, rfl, by decide +kernel, by decide +kernel⟩
theorem chk16 : chkSs tb d24.names (defScope (top 24)) d24.modes d24.body (defBody (top 24)) = true := by decide +kernel
theorem scp16 : FnScope d24.names ["_law_found", "_law_one", "_law_other"] (defScope (top 24)) := ⟨rfl, rfl, rfl, by decide +kernel, rfl, by decide +kernel, by decide +kernel⟩
theorem chk17 : chkSs tb d28.names (defScope (top 25)) d28.modes d28.body (defBody (top 25)) = true := by decide +kernel
theorem scp17 : FnScope d28.names ["_law_script"] (defScope (top 25)) := ⟨rfl, rfl, rfl, by decide +kernel, rfl, by decide +kernel, by decide +kernel⟩
end K11

set_option Elab.async false
set_option linter.all false
set_option maxRecDepth 100000
/-! Kinds: the kinds as data, what the gaps' answers make of them. -/
namespace KS
open PySem L2
inductive Kd where
  | num | tru | fn (a b : Kd) | pair (a b : Kd) | list (a : Kd) | any (k : Int)
  deriving DecidableEq
def Kd.enc : Kd → D
  | .num => .tup [.str 1]
  | .tru => .tup [.str 2]
  | .fn a b => .tup [.str 3, a.enc, b.enc]
  | .pair a b => .tup [.str 4, a.enc, b.enc]
  | .list a => .tup [.str 5, a.enc]
  | .any k => .tup [.str 0, .int k]
def Kd.dep : Kd → Nat
  | .fn a b => max a.dep b.dep + 1
  | .pair a b => max a.dep b.dep + 1
  | .list a => a.dep + 1
  | _ => 0
/-- the gaps' numbers are told so -/
def Kd.gapsOk (p : Int → Prop) : Kd → Prop
  | .fn a b => a.gapsOk p ∧ b.gapsOk p
  | .pair a b => a.gapsOk p ∧ b.gapsOk p
  | .list a => a.gapsOk p
  | .any k => p k
  | _ => True
abbrev Tl := List (Int × Kd)
def tlD (t : Tl) : List (Ky × D) := t.map fun p => (.inl p.1, p.2.enc)
def getT (t : Tl) (k : Int) : Option Kd := (t.find? fun p => decide (p.1 = k)).map (·.2)
def setT (t : Tl) (k : Int) (v : Kd) : Tl := if (t.any fun p => decide (p.1 = k)) = true then t.map fun p => if p.1 = k then (p.1, v) else p else t ++ [(k, v)]
def Kd.fill (t : Tl) : Kd → Kd
  | .num => .num
  | .tru => .tru
  | .fn a b => .fn (a.fill t) (b.fill t)
  | .pair a b => .pair (a.fill t) (b.fill t)
  | .list a => .list (a.fill t)
  | .any k => (getT t k).getD (.any k)
theorem getK_tlD (t : Tl) (k : Int) : getK (tlD t) (.inl k) = (getT t k).map Kd.enc := by
  unfold getK tlD getT
  induction t with
  | nil => rfl
  | cons p r ih =>
    simp only [List.map_cons, List.find?_cons]
    by_cases h : p.1 = k
    · simp [h]
    · have : ¬ (Sum.inl p.1 : Ky) = Sum.inl k := fun z => h (by cases z; rfl)
      simp [h]
      simpa using ih
theorem setK_tlD (t : Tl) (k : Int) (v : Kd) : setK (tlD t) (.inl k) v.enc = tlD (setT t k v) := by
  have e : (tlD t).any (fun kv => decide (kv.1 = .inl k)) = t.any fun p => decide (p.1 = k) := by
    unfold tlD
    rw [List.any_map]
    congr 1
    funext p
    simp
  unfold setK setT
  rw [e]
  by_cases h : (t.any fun p => decide (p.1 = k)) = true
  · rw [if_pos h, if_pos h]
    unfold tlD
    rw [List.map_map, List.map_map]
    apply List.map_congr_left
    intro p _
    by_cases hp : p.1 = k
    · simp [hp]
    · have : ¬ (Sum.inl p.1 : Ky) = Sum.inl k := fun z => hp (by cases z; rfl)
      simp [hp]
  · rw [if_neg h, if_neg h]
    unfold tlD
    rw [List.map_append]
    rfl
theorem enc_flatT (k : Kd) : k.enc.flatT = true := by induction k <;> simp [Kd.enc, D.flatT, D.flatTAll, *]
theorem enc_cmp (k : Kd) : k.enc.cmp = true := by induction k <;> simp [Kd.enc, D.cmp, D.cmpAll, *]
theorem enc_dep (k : Kd) : k.enc.dep = k.dep + 1 := by induction k <;> simp_all [Kd.enc, D.dep, D.depAll, Kd.dep] <;> omega
theorem eqv_tup {xs ys : List D} : D.eqv (.tup xs) (.tup ys) = D.eqvAll xs ys := rfl
theorem eqv_str {x y : Nat} : D.eqv (.str x) (.str y) = (x == y) := rfl
theorem eqv_int {x y : Int} : D.eqv (.int x) (.int y) = (x == y) := rfl
theorem eqvAll_cons {x y : D} {xs ys : List D} : D.eqvAll (x :: xs) (y :: ys) = (D.eqv x y && D.eqvAll xs ys) := rfl
theorem eqvAll_nil : D.eqvAll [] [] = true := rfl
theorem eqvAll_nc {y : D} {ys : List D} : D.eqvAll [] (y :: ys) = false := rfl
theorem eqvAll_cn {y : D} {ys : List D} : D.eqvAll (y :: ys) [] = false := rfl
theorem eqv_ti {x : Int} {xs : List D} : D.eqv (.int x) (.tup xs) = false := rfl
theorem eqv_it {x : Int} {xs : List D} : D.eqv (.tup xs) (.int x) = false := rfl
theorem eqv_enc : ∀ a b : Kd, D.eqv a.enc b.enc = decide (a = b) := by
  intro a
  induction a with
  | num => intro b; cases b <;> simp only [Kd.enc, eqv_tup, eqv_str, eqv_int, eqvAll_cons, eqvAll_nil, eqvAll_nc, eqvAll_cn] <;> simp
  | tru => intro b; cases b <;> simp only [Kd.enc, eqv_tup, eqv_str, eqv_int, eqvAll_cons, eqvAll_nil, eqvAll_nc, eqvAll_cn] <;> simp
  | fn a b h1 h2 => intro c; cases c <;> simp only [Kd.enc, eqv_tup, eqv_str, eqv_int, eqvAll_cons, eqvAll_nil, eqvAll_nc, eqvAll_cn, h1, h2] <;> simp
  | pair a b h1 h2 => intro c; cases c <;> simp only [Kd.enc, eqv_tup, eqv_str, eqv_int, eqvAll_cons, eqvAll_nil, eqvAll_nc, eqvAll_cn, h1, h2] <;> simp
  | list a h => intro c; cases c <;> simp only [Kd.enc, eqv_tup, eqv_str, eqv_int, eqvAll_cons, eqvAll_nil, eqvAll_nc, eqvAll_cn, h] <;> simp
  | any k => intro c; cases c <;> simp only [Kd.enc, eqv_tup, eqv_str, eqv_int, eqvAll_cons, eqvAll_nil, eqvAll_nc, eqvAll_cn] <;> simp <;> exact Bool.eq_iff_iff.mpr (by simp)
theorem eqv_self (a : Kd) : D.eqv a.enc a.enc = true := by rw [eqv_enc]; simp
theorem fill_nil (a : Kd) : a.fill [] = a := by induction a <;> simp_all [Kd.fill, getT]
theorem getT_mem {t : Tl} {k : Int} {v : Kd} (h : getT t k = some v) : ∃ p, p ∈ t ∧ p.2 = v := by
  unfold getT at h
  obtain ⟨p, h1, h2⟩ := Option.map_eq_some_iff.mp h
  exact ⟨p, List.mem_of_find?_eq_some h1, h2⟩
/-- every kind of t is within the bound and its gaps are told of -/
def TlOk (p : Int → Prop) (n : Nat) (t : Tl) : Prop := ∀ q, q ∈ t → q.2.dep ≤ n ∧ q.2.gapsOk p
theorem TlOk.set {p : Int → Prop} {n : Nat} {t : Tl} (h : TlOk p n t) {k : Int} {v : Kd} (h1 : v.dep ≤ n) (h2 : v.gapsOk p) : TlOk p n (setT t k v) := by
  intro q hq
  unfold setT at hq
  split at hq
  · obtain ⟨r, hr, e⟩ := List.mem_map.mp hq
    split at e
    · subst e; exact ⟨h1, h2⟩
    · subst e; exact h r hr
  · rcases List.mem_append.mp hq with hq | hq
    · exact h q hq
    · rcases List.mem_singleton.mp hq with rfl
      exact ⟨h1, h2⟩
theorem fill_dep {p : Int → Prop} {n : Nat} {t : Tl} (h : TlOk p n t) : ∀ k : Kd, (k.fill t).dep ≤ k.dep + n := by
  intro k
  induction k with
  | any i =>
    show ((getT t i).getD (.any i)).dep ≤ _
    cases e : getT t i with
    | none => exact Nat.zero_le _
    | some v =>
      obtain ⟨q, h1, rfl⟩ := getT_mem e
      exact Nat.le_trans (h q h1).1 (Nat.le_add_left ..)
  | _ => simp_all [Kd.fill, Kd.dep] <;> omega
theorem fill_gaps {p : Int → Prop} {n : Nat} {t : Tl} (h : TlOk p n t) : ∀ k : Kd, k.gapsOk p → (k.fill t).gapsOk p := by
  intro k
  induction k with
  | any i =>
    intro hk
    show ((getT t i).getD (.any i)).gapsOk p
    cases e : getT t i with
    | none => exact hk
    | some v =>
      obtain ⟨q, h1, rfl⟩ := getT_mem e
      exact (h q h1).2
  | fn a b h1 h2 => intro hk; exact ⟨h1 hk.1, h2 hk.2⟩
  | pair a b h1 h2 => intro hk; exact ⟨h1 hk.1, h2 hk.2⟩
  | list a h1 => intro hk; exact h1 hk
  | _ => intro hk; trivial
/-! ### dicts of kinds compared -/
theorem kvOk_tlD {p : Int → Prop} {n : Nat} {t : Tl} (h : TlOk p n t) (hn : n ≤ 170) : kvOk (tlD t) = true := by
  unfold kvOk tlD
  rw [List.all_map]
  refine List.all_eq_true.mpr fun q hq => ?_
  simp only [Function.comp_apply, enc_cmp, enc_dep, Bool.true_and, decide_eq_true_eq]
  have := (h q hq).1
  omega
def TlNd (t : Tl) : Prop := (t.map (·.1)).Nodup
theorem TlNd.set {t : Tl} (h : TlNd t) (k : Int) (v : Kd) : TlNd (setT t k v) := by
  unfold TlNd setT at *
  split
  · rename_i e
    have : (t.map fun p => if p.1 = k then (p.1, v) else p).map (·.1) = t.map (·.1) := by
      rw [List.map_map]
      apply List.map_congr_left
      intro p _
      simp only [Function.comp_apply]
      split <;> rfl
    rw [this]
    exact h
  · rename_i e
    rw [List.map_append, List.nodup_append]
    refine ⟨h, by simp, fun a ha b hb => ?_⟩
    rcases List.mem_singleton.mp hb with rfl
    rintro rfl
    obtain ⟨p, hp, e2⟩ := List.mem_map.mp ha
    exact e (List.any_eq_true.mpr ⟨p, hp, by simpa using e2⟩)
theorem getT_self : ∀ {t : Tl}, TlNd t → ∀ p, p ∈ t → getT t p.1 = some p.2
  | [], _, p, h => (nomatch h)
  | q :: t, nd, p, h => by
    unfold TlNd at nd
    rw [List.map_cons, List.nodup_cons] at nd
    unfold getT
    rw [List.find?_cons]
    by_cases e : q.1 = p.1
    · simp only [e, decide_true]
      rcases List.mem_cons.mp h with rfl | h
      · rfl
      · exact (nd.1 (by rw [e]; exact List.mem_map.mpr ⟨p, h, rfl⟩)).elim
    · simp only [e, decide_false]
      rcases List.mem_cons.mp h with rfl | h
      · exact (e rfl).elim
      · exact getT_self nd.2 p h
theorem hit_self {t : Tl} (nd : TlNd t) : ∀ {r : Tl}, (∀ p, p ∈ r → p ∈ t) → hitKV (tlD t) (tlD r) = true
  | [], _ => rfl
  | p :: r, h => by
    show (match getK (tlD t) (.inl p.1) with
      | some u => D.eqv p.2.enc u && hitKV (tlD t) (tlD r)
      | none => false) = true
    rw [getK_tlD, getT_self nd p (h p (List.mem_cons_self ..))]
    show (D.eqv p.2.enc p.2.enc && _) = true
    rw [eqv_self, hit_self nd fun q hq => h q (List.mem_cons_of_mem _ hq)]
    rfl
theorem eqKV_self {t : Tl} (nd : TlNd t) : eqKV (tlD t) (tlD t) = true := by
  unfold eqKV
  rw [hit_self nd fun p h => h]
  simp
theorem tlD_length (t : Tl) : (tlD t).length = t.length := by unfold tlD; rw [List.length_map]
theorem setT_length (t : Tl) (k : Int) (v : Kd) : (setT t k v).length ≤ t.length + 1 := by
  unfold setT
  split
  · rw [List.length_map]; omega
  · rw [List.length_append]; exact Nat.le_refl _
/-- two kinds compared -/
theorem op_eq_enc (a b : Kd) (h : min a.dep b.dep ≤ 180) : opD .eq a.enc b.enc = some (.bl (decide (a = b))) := by
  have e : opD .eq a.enc b.enc = (if eqOk a.enc b.enc = true then some (D.bl (D.eqv a.enc b.enc)) else none) := by cases a <;> rfl
  rw [e, if_pos, eqv_enc]
  unfold eqOk
  rw [enc_cmp, enc_cmp, enc_dep, enc_dep]
  simp only [Bool.true_and, decide_eq_true_eq]
  omega
theorem op_ne_enc (a b : Kd) (h : min a.dep b.dep ≤ 180) : opD .ne a.enc b.enc = some (.bl (!decide (a = b))) := by
  have e : opD .ne a.enc b.enc = (if eqOk a.enc b.enc = true then some (D.bl (!D.eqv a.enc b.enc)) else none) := by cases a <;> rfl
  rw [e, if_pos, eqv_enc]
  unfold eqOk
  rw [enc_cmp, enc_cmp, enc_dep, enc_dep]
  simp only [Bool.true_and, decide_eq_true_eq]
  omega
theorem op_ne_tl {p : Int → Prop} {n : Nat} {t : Tl} (h : TlOk p n t) (nd : TlNd t) (hn : n ≤ 170) : opD .ne (.dic (tlD t)) (.dic (tlD t)) = some (.bl false) := by
  show (if (kvOk (tlD t) && kvOk (tlD t)) = true then some (D.bl (!eqKV (tlD t) (tlD t))) else none) = _
  rw [kvOk_tlD h hn, eqKV_self nd]
  rfl
end KS

set_option Elab.async false
set_option linter.all false
set_option maxRecDepth 100000
namespace KS
open PySem L2
theorem mul_l {i j : Int} (h : inRange i = true) : opD .mul (.int i) (.int j) = some (.int (i * j)) := by
  show (if (inRange i || inRange j) = true then some (D.int (i * j)) else none) = _
  rw [h, Bool.true_or, if_pos rfl]
theorem mul_r {i j : Int} (h : inRange j = true) : opD .mul (.int i) (.int j) = some (.int (i * j)) := by
  show (if (inRange i || inRange j) = true then some (D.int (i * j)) else none) = _
  rw [h, Bool.or_true, if_pos rfl]
theorem go_un {G : Gm} {R : RF} {b : Bool} {k : Unit → T} (h : b = false) (q : Goes G (k ()) R) : Goes G (T.un b k) R := by subst h; exact q
theorem go_tri {G : Gm} {R : RF} {o : Option Bool} {t f : Unit → T} {b : Bool} (h : o = some b) (q : Goes G (match b with
  | true => t ()
  | false => f ()) R) : Goes G (T.tri o t f) R := by
  subst h
  cases b with
  | true => exact go_o rfl (go_tt rfl q)
  | false => exact go_o rfl (go_ff rfl q)
/-- the length of a loop of kinds -/
theorem atI_ok {α : Type} {xs : List α} {i : Int} (h0 : 0 ≤ i) (h1 : i < xs.length) : ∃ x, atI xs i = some x := by
  have e : i = ((i.toNat : Nat) : Int) := by omega
  rw [e]
  exact ⟨xs[i.toNat]'(by omega), atI_nat (by rw [List.getElem?_eq_getElem (by omega)])⟩
end KS

set_option Elab.async false
set_option linter.all false
set_option maxRecDepth 100000
/-! Lib1: what the laws' and the program's small defs come to. -/
namespace KS
open PySem L2
local macro_rules | `(tactic| walk_at "st") => `(tactic| first | (refine go_o rfl ?_) | (refine go_tt rfl ?_) | (refine go_ff rfl ?_))
section
variable {w : Nat} {ns : List Int}

theorem cell (n : Nat) (k : Int) : ∃ c, sem PD w (n + 1) 1 [.dat (.scr ns), .dat (.int k)] = .ok (.int c) [] := by
  by_cases h : ns = []
  · subst h
    exact ⟨0, sem_go (d := d1) rfl (by repeat walk_at "st"
                                       exact go_ok rfl)⟩
  · have hl : 0 < ns.length := List.length_pos_iff.mpr h
    obtain ⟨c, hc⟩ := atI_ok (xs := ns) (i := k % (ns.length : Int)) (Int.emod_nonneg _ (by omega)) (Int.emod_lt_of_pos _ (by omega))
    refine ⟨c, sem_go (d := d1) rfl ?_⟩
    have ht : (!ns.isEmpty) = true := by
      cases ns with
      | nil => exact (h rfl).elim
      | cons _ _ => rfl
    have hm : opD .mod (.int k) (.int ns.length) = some (.int (k % ns.length)) := by
      show (if (0 : Int) < ns.length then some (D.int (k % ns.length)) else none) = _
      rw [if_pos (by omega)]
    have hi : ixND (.scr ns) (.int (k % ns.length)) = some (.int c) := by
      show (atI ns _).map D.int = _
      rw [hc]; rfl
    repeat walk_at "st"
    refine go_tt ht ?_
    repeat walk_at "st"
    refine go_o hm ?_
    repeat walk_at "st"
    refine go_o hi ?_
    repeat walk_at "st"
    exact go_ok rfl
theorem mix (n : Nat) (k : Int) : ∃ v, 0 ≤ v ∧ sem PD w (n + 2) 2 [.dat (.scr ns), .dat (.int k)] = .ok (.int v) [] := by
  obtain ⟨c, hc⟩ := cell (w := w) (ns := ns) n k
  refine ⟨((c + 104729 * (k + 1)) % 4294967291 * 48271 % 4294967279 / 64 * 69621 + (c + 104729 * (k + 1)) % 4294967291 * 48271 % 4294967279) % 4294967231, Int.emod_nonneg _ (by decide), sem_go (d := d2) rfl ?_⟩
  repeat walk_at "st"
  refine go_call hc ?_
  repeat walk_at "st"
  refine go_o (mul_r rfl) ?_
  repeat walk_at "st"
  refine go_o (mul_r rfl) ?_
  repeat walk_at "st"
  exact go_ok rfl
theorem whole (n : Nat) (d : D) (b : Bool) (h : isiD d .int = some true) (h2 : isiD d .bool = some false) : sem PD w (n + 1) 3 [.dat d] = .ok (.bl true) [] := by
  refine sem_go (d := d3) rfl ?_
  repeat walk_at "st"
  refine go_o (a := .bl true) (by rw [h]; rfl) ?_
  repeat walk_at "st"
  refine go_o (a := .bl false) (by rw [h2]; rfl) ?_
  repeat walk_at "st"
  exact go_ok rfl
theorem gap (n : Nat) (v : Int) (h : 0 ≤ v) : ∃ g, 0 ≤ g ∧ sem PD w (n + 1) 4 [.dat (.int v)] = .ok (Kd.any g).enc [] := by
  obtain ⟨r, hr⟩ : ∃ r, v % 6 = r := ⟨_, rfl⟩
  have h0 : 0 ≤ r := by rw [← hr]; exact Int.emod_nonneg _ (by decide)
  have h1 : r < 6 := by rw [← hr]; exact Int.emod_lt_of_pos _ (by decide)
  have go : ∀ g : Int, 0 ≤ g → ixND (.lst [.int 0, .int 1, .int 2, .int 3, .int 7, .int (10 ^ 30)]) (.int r) = some (.int g) → ∃ g, 0 ≤ g ∧ sem PD w (n + 1) 4 [.dat (.int v)] = .ok (Kd.any g).enc [] := fun g hg hi => by
    refine ⟨g, hg, sem_go (d := d4) rfl ?_⟩
    repeat walk_at "st"
    refine go_o (show ixND (.lst [.int 0, .int 1, .int 2, .int 3, .int 7, .int (10 ^ 30)]) (.int (v % 6)) = some (.int g) by rw [hr]; exact hi) ?_
    repeat walk_at "st"
    exact go_ok rfl
  have : r = 0 ∨ r = 1 ∨ r = 2 ∨ r = 3 ∨ r = 4 ∨ r = 5 := by omega
  rcases this with rfl | rfl | rfl | rfl | rfl | rfl
  · exact go 0 (by decide) rfl
  · exact go 1 (by decide) rfl
  · exact go 2 (by decide) rfl
  · exact go 3 (by decide) rfl
  · exact go 7 (by decide) rfl
  · exact go (10 ^ 30) (by decide) rfl
/-- a kind is made -/
abbrev pos : Int → Prop := fun g => 0 ≤ g
theorem kind : ∀ (deep n : Nat) (k : Int), ∃ t : Kd, t.dep ≤ deep ∧ t.gapsOk pos ∧ sem PD w (n + deep + 3) 5 [.dat (.scr ns), .dat (.int k), .dat (.int deep)] = .ok t.enc [] := by
  have leaf : ∀ (n : Nat) (v : Int) (G : Gm) (hG : ∀ v : Int, 0 ≤ v → ∃ g, 0 ≤ g ∧ G 4 [.dat (.int v)] = .ok (Kd.any g).enc []) (h0 : 0 ≤ v), ∃ t : Kd, t.dep = 0 ∧ t.gapsOk pos ∧ ∃ g1, G 4 [.dat (.int (v / 28))] = .ok (Kd.any g1).enc [] ∧
      ixND (.lst [Kd.num.enc, Kd.tru.enc, (Kd.any g1).enc, (Kd.any g1).enc]) (.int (v / 7 % 4)) = some t.enc := by
    intro n v G hG h0
    obtain ⟨g1, p1, hg⟩ := hG (v / 28) (Int.ediv_nonneg h0 (by decide))
    have h1 : 0 ≤ v / 7 % 4 := Int.emod_nonneg _ (by decide)
    have h2 : v / 7 % 4 < 4 := Int.emod_lt_of_pos _ (by decide)
    have : v / 7 % 4 = 0 ∨ v / 7 % 4 = 1 ∨ v / 7 % 4 = 2 ∨ v / 7 % 4 = 3 := by omega
    rcases this with e | e | e | e
    · exact ⟨.num, rfl, trivial, g1, hg, by rw [e]; rfl⟩
    · exact ⟨.tru, rfl, trivial, g1, hg, by rw [e]; rfl⟩
    · exact ⟨.any g1, rfl, p1, g1, hg, by rw [e]; rfl⟩
    · exact ⟨.any g1, rfl, p1, g1, hg, by rw [e]; rfl⟩
  intro deep
  induction deep with
  | zero =>
    intro n k
    obtain ⟨v, h0, hv⟩ := mix (w := w) (ns := ns) n k
    obtain ⟨t, t1, t2, g1, t3, t4⟩ := leaf n v (sem PD w (n + 2)) (fun v h => gap (n + 1) v h) h0
    refine ⟨t, by omega, t2, sem_go (d := d5) rfl ?_⟩
    repeat walk_at "st"
    refine go_call hv ?_
    repeat walk_at "st"
    refine go_call t3 ?_
    repeat walk_at "st"
    refine go_call t3 ?_
    repeat walk_at "st"
    refine go_o t4 ?_
    repeat walk_at "st"
    exact go_ok rfl
  | succ deep ih =>
    intro n k
    obtain ⟨v, h0, hv⟩ := mix (w := w) (ns := ns) (n + deep + 1) k
    have ed : ((deep + 1 : Nat) : Int) - 1 = (deep : Int) := by omega
    by_cases c1 : v % 7 < 2
    · obtain ⟨t, t1, t2, g1, t3, t4⟩ := leaf n v (sem PD w (n + deep + 3)) (fun v h => gap (n + deep + 2) v h) h0
      refine ⟨t, by omega, t2, sem_go (d := d5) rfl ?_⟩
      repeat walk_at "st"
      refine go_call hv ?_
      repeat walk_at "st"
      refine go_tt (decide_eq_true c1) ?_
      repeat walk_at "st"
      refine go_call t3 ?_
      repeat walk_at "st"
      refine go_call t3 ?_
      repeat walk_at "st"
      refine go_o t4 ?_
      repeat walk_at "st"
      exact go_ok rfl
    · by_cases c2 : v % 7 = 2
      · obtain ⟨t, t1, t2, t3⟩ := ih n (2 * k + 1)
        rw [← ed] at t3
        refine ⟨.list t, Nat.succ_le_succ t1, t2, sem_go (d := d5) rfl ?_⟩
        repeat walk_at "st"
        refine go_call hv ?_
        repeat walk_at "st"
        refine go_ff (decide_eq_false c1) ?_
        repeat walk_at "st"
        refine go_tt (show (v % 7 == 2) = true by simpa using c2) ?_
        repeat walk_at "st"
        refine go_call t3 ?_
        repeat walk_at "st"
        exact go_ok rfl
      · obtain ⟨t, t1, t2, t3⟩ := ih n (2 * k + 1)
        obtain ⟨u, u1, u2, u3⟩ := ih n (2 * k + 2)
        rw [← ed] at t3 u3
        have fin : ∀ (s : Nat) (r : Kd), r.enc = .tup [.str s, t.enc, u.enc] → r.dep ≤ deep + 1 → r.gapsOk pos → ixND (.lst [.str 3, .str 4]) (.int (v % 2)) = some (.str s) →
            ∃ t : Kd, t.dep ≤ deep + 1 ∧ t.gapsOk pos ∧ sem PD w (n + (deep + 1) + 3) 5 [.dat (.scr ns), .dat (.int k), .dat (.int ((deep + 1 : Nat) : Int))] = .ok t.enc [] := fun s r e1 e2 e3 e4 => by
          refine ⟨r, e2, e3, sem_go (d := d5) rfl ?_⟩
          repeat walk_at "st"
          refine go_call hv ?_
          repeat walk_at "st"
          refine go_ff (decide_eq_false c1) ?_
          repeat walk_at "st"
          refine go_ff (show (v % 7 == 2) = false by simpa using c2) ?_
          repeat walk_at "st"
          refine go_o e4 ?_
          repeat walk_at "st"
          refine go_call t3 ?_
          repeat walk_at "st"
          refine go_call u3 ?_
          repeat walk_at "st"
          exact go_ok (by rw [e1])
        have h1 : 0 ≤ v % 2 := Int.emod_nonneg _ (by decide)
        have h2 : v % 2 < 2 := Int.emod_lt_of_pos _ (by decide)
        have hd : max t.dep u.dep + 1 ≤ deep + 1 := by omega
        have : v % 2 = 0 ∨ v % 2 = 1 := by omega
        rcases this with e | e
        · exact fin 3 (.fn t u) rfl hd ⟨t2, u2⟩ (by rw [e]; rfl)
        · exact fin 4 (.pair t u) rfl hd ⟨t2, u2⟩ (by rw [e]; rfl)
theorem filled (t : Tl) : ∀ (k : Kd) (n : Nat), k.dep < n → sem PD w n 0 [.dat k.enc, .dat (.dic (tlD t))] = .ok (k.fill t).enc [] := by
  intro k
  induction k with
  | num =>
    intro n h
    obtain ⟨n, rfl⟩ : ∃ m, n = m + 1 := ⟨n - 1, by omega⟩
    refine sem_go (d := d0) rfl ?_
    repeat walk_at "st"
    exact go_ok rfl
  | tru =>
    intro n h
    obtain ⟨n, rfl⟩ : ∃ m, n = m + 1 := ⟨n - 1, by omega⟩
    refine sem_go (d := d0) rfl ?_
    repeat walk_at "st"
    exact go_ok rfl
  | list a iha =>
    intro n h
    obtain ⟨n, rfl⟩ : ∃ m, n = m + 1 := ⟨n - 1, by omega⟩
    have h1 := iha n (by simp [Kd.dep] at h; omega)
    refine sem_go (d := d0) rfl ?_
    repeat walk_at "st"
    refine go_call h1 ?_
    repeat walk_at "st"
    exact go_ok rfl
  | fn a b iha ihb =>
    intro n h
    obtain ⟨n, rfl⟩ : ∃ m, n = m + 1 := ⟨n - 1, by omega⟩
    have h1 := iha n (by simp [Kd.dep] at h; omega)
    have h2 := ihb n (by simp [Kd.dep] at h; omega)
    refine sem_go (d := d0) rfl ?_
    repeat walk_at "st"
    refine go_call h1 ?_
    repeat walk_at "st"
    refine go_call h2 ?_
    repeat walk_at "st"
    exact go_ok rfl
  | pair a b iha ihb =>
    intro n h
    obtain ⟨n, rfl⟩ : ∃ m, n = m + 1 := ⟨n - 1, by omega⟩
    have h1 := iha n (by simp [Kd.dep] at h; omega)
    have h2 := ihb n (by simp [Kd.dep] at h; omega)
    refine sem_go (d := d0) rfl ?_
    repeat walk_at "st"
    refine go_call h1 ?_
    repeat walk_at "st"
    refine go_call h2 ?_
    repeat walk_at "st"
    exact go_ok rfl
  | any i =>
    intro n h
    obtain ⟨n, rfl⟩ : ∃ m, n = m + 1 := ⟨n - 1, by omega⟩
    refine sem_go (d := d0) rfl ?_
    repeat walk_at "st"
    refine go_ok ?_
    show RF.ok ((getK (tlD t) (.inl i)).getD (Kd.any i).enc) [] = .ok ((getT t i).getD (.any i)).enc []
    rw [getK_tlD]
    cases getT t i <;> rfl
theorem filled2 (t : Tl) : ∀ (k : Kd) (n : Nat), k.dep < n → sem PD w n 6 [.dat k.enc, .dat (.dic (tlD t))] = .ok (k.fill t).enc [] := by
  intro k
  induction k with
  | num =>
    intro n h
    obtain ⟨n, rfl⟩ : ∃ m, n = m + 1 := ⟨n - 1, by omega⟩
    refine sem_go (d := d6) rfl ?_
    repeat walk_at "st"
    exact go_ok rfl
  | tru =>
    intro n h
    obtain ⟨n, rfl⟩ : ∃ m, n = m + 1 := ⟨n - 1, by omega⟩
    refine sem_go (d := d6) rfl ?_
    repeat walk_at "st"
    exact go_ok rfl
  | list a iha =>
    intro n h
    obtain ⟨n, rfl⟩ : ∃ m, n = m + 1 := ⟨n - 1, by omega⟩
    have h1 := iha n (by simp [Kd.dep] at h; omega)
    refine sem_go (d := d6) rfl ?_
    repeat walk_at "st"
    refine go_call h1 ?_
    repeat walk_at "st"
    exact go_ok rfl
  | fn a b iha ihb =>
    intro n h
    obtain ⟨n, rfl⟩ : ∃ m, n = m + 1 := ⟨n - 1, by omega⟩
    have h1 := iha n (by simp [Kd.dep] at h; omega)
    have h2 := ihb n (by simp [Kd.dep] at h; omega)
    refine sem_go (d := d6) rfl ?_
    repeat walk_at "st"
    refine go_call h1 ?_
    repeat walk_at "st"
    refine go_call h2 ?_
    repeat walk_at "st"
    exact go_ok rfl
  | pair a b iha ihb =>
    intro n h
    obtain ⟨n, rfl⟩ : ∃ m, n = m + 1 := ⟨n - 1, by omega⟩
    have h1 := iha n (by simp [Kd.dep] at h; omega)
    have h2 := ihb n (by simp [Kd.dep] at h; omega)
    refine sem_go (d := d6) rfl ?_
    repeat walk_at "st"
    refine go_call h1 ?_
    repeat walk_at "st"
    refine go_call h2 ?_
    repeat walk_at "st"
    exact go_ok rfl
  | any i =>
    intro n h
    obtain ⟨n, rfl⟩ : ∃ m, n = m + 1 := ⟨n - 1, by omega⟩
    refine sem_go (d := d6) rfl ?_
    repeat walk_at "st"
    refine go_ok ?_
    show RF.ok ((getK (tlD t) (.inl i)).getD (Kd.any i).enc) [] = .ok ((getT t i).getD (.any i)).enc []
    rw [getK_tlD]
    cases getT t i <;> rfl
theorem iskind : ∀ (k : Kd) (n : Nat), k.gapsOk pos → k.dep + 1 < n → sem PD w n 8 [.dat k.enc] = .ok (.bl true) [] := by
  intro k
  induction k with
  | num =>
    intro n _ h
    obtain ⟨n, rfl⟩ : ∃ m, n = m + 1 := ⟨n - 1, by omega⟩
    refine sem_go (d := d8) rfl ?_
    repeat walk_at "st"
    exact go_ok rfl
  | tru =>
    intro n _ h
    obtain ⟨n, rfl⟩ : ∃ m, n = m + 1 := ⟨n - 1, by omega⟩
    refine sem_go (d := d8) rfl ?_
    repeat walk_at "st"
    exact go_ok rfl
  | list a iha =>
    intro n g h
    obtain ⟨n, rfl⟩ : ∃ m, n = m + 1 := ⟨n - 1, by omega⟩
    have h1 := iha n g (by simp [Kd.dep] at h; omega)
    refine sem_go (d := d8) rfl ?_
    repeat walk_at "st"
    refine go_call h1 ?_
    repeat walk_at "st"
    exact go_ok rfl
  | fn a b iha ihb =>
    intro n g h
    obtain ⟨n, rfl⟩ : ∃ m, n = m + 1 := ⟨n - 1, by omega⟩
    have h1 := iha n g.1 (by simp [Kd.dep] at h; omega)
    have h2 := ihb n g.2 (by simp [Kd.dep] at h; omega)
    refine sem_go (d := d8) rfl ?_
    repeat walk_at "st"
    refine go_call h1 ?_
    repeat walk_at "st"
    refine go_call h2 ?_
    repeat walk_at "st"
    exact go_ok rfl
  | pair a b iha ihb =>
    intro n g h
    obtain ⟨n, rfl⟩ : ∃ m, n = m + 1 := ⟨n - 1, by omega⟩
    have h1 := iha n g.1 (by simp [Kd.dep] at h; omega)
    have h2 := ihb n g.2 (by simp [Kd.dep] at h; omega)
    refine sem_go (d := d8) rfl ?_
    repeat walk_at "st"
    refine go_call h1 ?_
    repeat walk_at "st"
    refine go_call h2 ?_
    repeat walk_at "st"
    exact go_ok rfl
  | any i =>
    intro n g h
    obtain ⟨n, rfl⟩ : ∃ m, n = m + 2 := ⟨n - 2, by omega⟩
    have hw := whole (w := w) n (.int i) true rfl rfl
    have g : 0 ≤ i := g
    refine sem_go (d := d8) rfl ?_
    repeat walk_at "st"
    refine go_call hw ?_
    repeat walk_at "st"
    refine go_ok ?_
    show RF.ok (.bl (decide (0 ≤ i))) [] = _
    rw [decide_eq_true g]
end
end KS

set_option Elab.async false
set_option linter.all false
set_option maxRecDepth 100000
namespace KS
open PySem L2
/-- a comprehension whose turns each come to what o tells, P what stays true of the names -/
theorem comp_go {G : Gm} {R : RF} {f : D → KS.Env → (Option D → KS.Env → T) → T} {k : List D → KS.Env → T} (P : KS.Env → Prop) (o : D → Option D) : ∀ {ds : List D} {ρ : KS.Env},
    (∀ d, d ∈ ds → ∀ ρ k2, P ρ → (∀ ρ', P ρ' → Goes G (k2 (o d) ρ') R) → Goes G (f d ρ k2) R) → P ρ → (∀ ρ', P ρ' → Goes G (k (ds.filterMap o) ρ') R) → Goes G (compK f ds ρ k) R := by
  intro ds
  induction ds generalizing k with
  | nil => intro ρ _ hp hk; exact hk ρ hp
  | cons d ds ih =>
    intro ρ h hp hk
    refine h d (List.mem_cons_self ..) ρ _ hp fun ρ1 h1 => ?_
    refine ih (fun d hd => h d (List.mem_cons_of_mem _ hd)) h1 fun ρ2 h2 => ?_
    have := hk ρ2 h2
    cases e : o d with
    | none => rw [List.filterMap_cons_none e] at this; exact this
    | some y => rw [List.filterMap_cons_some e] at this; exact this
/-- a loop: S tells what is true of the names when these things are still to come -/
theorem for_go {G : Gm} {R : RF} {f : D → KS.Env → (KS.Env → T) → (KS.Env → T) → T} {k : KS.Env → T} (S : List D → KS.Env → Prop) : ∀ {ds : List D} {ρ : KS.Env},
    (∀ d ds ρ nx, S (d :: ds) ρ → (∀ ρ', S ds ρ' → Goes G (nx ρ') R) → Goes G (f d ρ nx k) R) → S ds ρ → (∀ ρ', S [] ρ' → Goes G (k ρ') R) → Goes G (forK f ds ρ k) R := by
  intro ds
  induction ds with
  | nil => intro ρ _ hs hk; exact hk ρ hs
  | cons d ds ih =>
    intro ρ h hs hk
    exact h d ds ρ _ hs fun ρ' hs' => ih h hs' hk
end KS

set_option Elab.async false
set_option linter.all false
set_option maxRecDepth 100000
/-! Gaps: the gaps of a kind in their order, plain, pairs, wider: as plain functions, and what the defs come to. -/
namespace KS
open PySem L2
def Kd.lv : Kd → Nat
  | .fn a b => a.lv + b.lv
  | .pair a b => a.lv + b.lv
  | .list a => a.lv
  | _ => 1
theorem lv_le : ∀ k : Kd, k.lv ≤ 2 ^ k.dep := by
  intro k
  induction k with
  | fn a b h1 h2 =>
    have e1 := Nat.pow_le_pow_right (n := 2) (by decide) (Nat.le_max_left a.dep b.dep)
    have e2 := Nat.pow_le_pow_right (n := 2) (by decide) (Nat.le_max_right a.dep b.dep)
    show a.lv + b.lv ≤ 2 ^ (max a.dep b.dep + 1)
    rw [Nat.pow_succ]; omega
  | pair a b h1 h2 =>
    have e1 := Nat.pow_le_pow_right (n := 2) (by decide) (Nat.le_max_left a.dep b.dep)
    have e2 := Nat.pow_le_pow_right (n := 2) (by decide) (Nat.le_max_right a.dep b.dep)
    show a.lv + b.lv ≤ 2 ^ (max a.dep b.dep + 1)
    rw [Nat.pow_succ]; omega
  | list a h =>
    show a.lv ≤ 2 ^ (a.dep + 1)
    rw [Nat.pow_succ]; omega
  | _ => exact Nat.le_refl _
def extL (f g : List Int) : List Int := f ++ g.filter fun i => !decide (i ∈ f)
def Kd.gapsL : Kd → List Int
  | .fn a b => extL (extL [] a.gapsL) b.gapsL
  | .pair a b => extL (extL [] a.gapsL) b.gapsL
  | .list a => extL [] a.gapsL
  | .any k => [k]
  | _ => []
theorem extL_length (f g : List Int) : (extL f g).length ≤ f.length + g.length := by
  unfold extL
  rw [List.length_append]
  have := List.length_filter_le (fun i => !decide (i ∈ f)) g
  omega
theorem gapsL_length : ∀ k : Kd, k.gapsL.length ≤ k.lv := by
  intro k
  induction k with
  | fn a b h1 h2 =>
    have := extL_length (extL [] a.gapsL) b.gapsL
    have := extL_length [] a.gapsL
    show _ ≤ a.lv + b.lv
    simp only [Kd.gapsL, List.length_nil] at *
    omega
  | pair a b h1 h2 =>
    have := extL_length (extL [] a.gapsL) b.gapsL
    have := extL_length [] a.gapsL
    show _ ≤ a.lv + b.lv
    simp only [Kd.gapsL, List.length_nil] at *
    omega
  | list a h =>
    have := extL_length [] a.gapsL
    show _ ≤ a.lv
    simp only [Kd.gapsL, List.length_nil] at *
    omega
  | any k => exact Nat.le_refl _
  | _ => exact Nat.zero_le _
abbrev intsD (l : List Int) : List D := l.map D.int
theorem any_ints (i : Int) : ∀ l : List Int, ((intsD l).any fun y => D.eqv y (.int i)) = decide (i ∈ l)
  | [] => by simp
  | j :: l => by
    show (D.eqv (.int j) (.int i) || _) = _
    rw [any_ints i l, eqv_int]
    by_cases h : j = i
    · subst h; simp
    · have : (j == i) = false := by simpa using h
      have h' : ¬ i = j := fun z => h z.symm
      simp [this, h']
theorem op_notin_ints (i : Int) (l : List Int) : opD .notin (.int i) (.lst (intsD l)) = some (.bl (!decide (i ∈ l))) := by
  show (inD (.int i) (intsD l)).map (fun b => D.bl !b) = _
  have : (D.scalar (.int i) && (intsD l).all D.scalar) = true := by
    rw [Bool.and_eq_true]
    refine ⟨rfl, List.all_eq_true.mpr fun d hd => ?_⟩
    obtain ⟨j, _, rfl⟩ := List.mem_map.mp hd
    rfl
  unfold inD
  rw [if_pos this, any_ints]
  rfl
def keepO (f : List Int) : D → Option D
  | .int i => if i ∈ f then none else some (.int i)
  | d => some d
theorem keep_map (f : List Int) : ∀ g : List Int, (intsD g).filterMap (keepO f) = intsD (g.filter fun i => !decide (i ∈ f))
  | [] => rfl
  | i :: g => by
    by_cases h : i ∈ f
    · rw [show intsD (i :: g) = .int i :: intsD g from rfl, List.filterMap_cons_none (by show (if i ∈ f then none else some (D.int i)) = none; rw [if_pos h]), keep_map f g, List.filter_cons_of_neg (by simpa using h)]
    · rw [show intsD (i :: g) = .int i :: intsD g from rfl, List.filterMap_cons_some (b := .int i) (by show (if i ∈ f then none else some (D.int i)) = _; rw [if_neg h]), keep_map f g, List.filter_cons_of_pos (by simpa using h)]
      rfl
theorem op_add_ints (f g : List Int) (h : f.length + g.length ≤ lim) : opD .add (.lst (intsD f)) (.lst (intsD g)) = some (.lst (intsD (f ++ g))) := by
  show (if (intsD f).length + (intsD g).length ≤ lim then some (D.lst (intsD f ++ intsD g)) else none) = _
  rw [List.length_map, List.length_map, if_pos h, ← List.map_append]
section
variable {w : Nat}
local macro_rules | `(tactic| walk_at "st") => `(tactic| first | (refine go_o rfl ?_) | (refine go_tt rfl ?_) | (refine go_ff rfl ?_))
/-- what is kept of the numbers -/
theorem keep_go {G : Gm} {R : RF} {kd pt c y : SV} {f : List Int} {k : List D → KS.Env → KS.T} (hc : c = .dat (.lst (intsD f)) ∨ c = .ol (intsD f)) : ∀ {g : List Int}, (∀ x, Goes G (k (intsD (g.filter fun i => !decide (i ∈ f))) [kd, c, pt, x]) R) →
    Goes G (compK (fun d ρ2 k2 => KS.T.opt (bindT [3] d (killV ρ2 [3])) fun ρ3 => evK false true (.bin .notin (.var 3) (.var 1)) ρ3 fun dc ρ4 => KS.T.tri (truth dc) (fun _ => evK false false (.var 3) ρ4 fun y ρ5 => k2 (some y) ρ5) fun _ => k2 none ρ4) (intsD g) [kd, c, pt, y] k) R := by
  intro g h
  refine comp_go (P := fun ρ => ∃ x, ρ = [kd, c, pt, x]) (o := keepO f) (fun d hd ρ k2 hp hk => ?_) ⟨y, rfl⟩ (fun ρ' hp => ?_)
  · obtain ⟨x, rfl⟩ := hp
    obtain ⟨i, _, rfl⟩ := List.mem_map.mp hd
    have hk := hk [kd, c, pt, .dat (.int i)] ⟨_, rfl⟩
    rcases hc with rfl | rfl
    · repeat walk_at "st"
      refine go_o (op_notin_ints i f) ?_
      by_cases hi : i ∈ f
      · refine go_o (a := false) (by show some (!decide (i ∈ f)) = some false; simp [hi]) ?_
        refine go_ff rfl ?_
        rw [show keepO f (.int i) = none from if_pos hi] at hk
        exact hk
      · refine go_o (a := true) (by show some (!decide (i ∈ f)) = some true; simp [hi]) ?_
        refine go_tt rfl ?_
        repeat walk_at "st"
        rw [show keepO f (.int i) = some (.int i) from if_neg hi] at hk
        exact hk
    · repeat walk_at "st"
      refine go_o (op_notin_ints i f) ?_
      by_cases hi : i ∈ f
      · refine go_o (a := false) (by show some (!decide (i ∈ f)) = some false; simp [hi]) ?_
        refine go_ff rfl ?_
        rw [show keepO f (.int i) = none from if_pos hi] at hk
        exact hk
      · refine go_o (a := true) (by show some (!decide (i ∈ f)) = some true; simp [hi]) ?_
        refine go_tt rfl ?_
        repeat walk_at "st"
        rw [show keepO f (.int i) = some (.int i) from if_neg hi] at hk
        exact hk
  · obtain ⟨x, rfl⟩ := hp
    rw [keep_map]
    exact h x
theorem ext_ints (f g : List Int) (h : f.length + g.length ≤ lim) : extS (some (.ol (intsD f))) (.lst (intsD g)) = some (.ol (intsD (f ++ g))) := by
  show (if (intsD f).length + (intsD g).length ≤ lim then some (SV.ol (intsD f ++ intsD g)) else none) = _
  rw [List.length_map, List.length_map, if_pos h, ← List.map_append]
theorem filter_lim {f g : List Int} (h : f.length + g.length ≤ 2000000) : f.length + (g.filter fun i => !decide (i ∈ f)).length ≤ lim := by
  have := List.length_filter_le (fun i => !decide (i ∈ f)) g
  show _ ≤ 16777216
  omega
theorem ints_lim {g : List Int} (h : g.length ≤ 2000000) : decide (lim < (intsD g).length) = false := by
  rw [List.length_map]
  exact decide_eq_false (by show ¬ 16777216 < _; omega)
theorem lgaps : ∀ (k : Kd) (n : Nat), k.dep < n → k.lv ≤ 1000000 → sem PD w n 7 [.dat k.enc] = .ok (.lst (intsD k.gapsL)) [] := by
  intro k
  induction k with
  | num =>
    intro n h _
    obtain ⟨n, rfl⟩ : ∃ m, n = m + 1 := ⟨n - 1, by omega⟩
    refine sem_go (d := d7) rfl ?_
    repeat walk_at "st"
    exact go_ok rfl
  | tru =>
    intro n h _
    obtain ⟨n, rfl⟩ : ∃ m, n = m + 1 := ⟨n - 1, by omega⟩
    refine sem_go (d := d7) rfl ?_
    repeat walk_at "st"
    exact go_ok rfl
  | any i =>
    intro n h _
    obtain ⟨n, rfl⟩ : ∃ m, n = m + 1 := ⟨n - 1, by omega⟩
    refine sem_go (d := d7) rfl ?_
    repeat walk_at "st"
    exact go_ok rfl
  | list a iha =>
    intro n h hl
    obtain ⟨n, rfl⟩ : ∃ m, n = m + 1 := ⟨n - 1, by omega⟩
    have hl : a.lv ≤ 1000000 := hl
    have g1 := gapsL_length a
    have h1 := iha n (by simp [Kd.dep] at h; omega) hl
    refine sem_go (d := d7) rfl ?_
    repeat walk_at "st"
    refine go_call h1 ?_
    repeat walk_at "st"
    refine go_un rfl ?_
    refine go_un (ints_lim (by omega)) ?_
    refine keep_go (f := []) (.inl rfl) fun x => ?_
    repeat walk_at "st"
    refine go_o (op_add_ints [] _ (filter_lim (by simp only [List.length_nil]; omega))) ?_
    repeat walk_at "st"
    exact go_ok rfl
  | fn a b iha ihb =>
    intro n h hl
    obtain ⟨n, rfl⟩ : ∃ m, n = m + 1 := ⟨n - 1, by omega⟩
    have hl : a.lv + b.lv ≤ 1000000 := hl
    have g1 := gapsL_length a
    have g2 := gapsL_length b
    have g3 := extL_length [] a.gapsL
    have h1 := iha n (by simp [Kd.dep] at h; omega) (by omega)
    have h2 := ihb n (by simp [Kd.dep] at h; omega) (by omega)
    refine sem_go (d := d7) rfl ?_
    repeat walk_at "st"
    refine go_call h1 ?_
    repeat walk_at "st"
    refine go_un rfl ?_
    refine go_un (ints_lim (by omega)) ?_
    refine keep_go (f := []) (.inl rfl) fun x => ?_
    repeat walk_at "st"
    refine go_o (op_add_ints [] _ (filter_lim (by simp only [List.length_nil]; omega))) ?_
    repeat walk_at "st"
    refine go_call h2 ?_
    repeat walk_at "st"
    refine go_un rfl ?_
    refine go_un (ints_lim (by omega)) ?_
    refine keep_go (f := extL [] a.gapsL) (.inl rfl) fun x => ?_
    repeat walk_at "st"
    refine go_o (op_add_ints (extL [] a.gapsL) _ (filter_lim (by simp only [List.length_nil] at g3; omega))) ?_
    repeat walk_at "st"
    exact go_ok rfl
  | pair a b iha ihb =>
    intro n h hl
    obtain ⟨n, rfl⟩ : ∃ m, n = m + 1 := ⟨n - 1, by omega⟩
    have hl : a.lv + b.lv ≤ 1000000 := hl
    have g1 := gapsL_length a
    have g2 := gapsL_length b
    have g3 := extL_length [] a.gapsL
    have h1 := iha n (by simp [Kd.dep] at h; omega) (by omega)
    have h2 := ihb n (by simp [Kd.dep] at h; omega) (by omega)
    refine sem_go (d := d7) rfl ?_
    repeat walk_at "st"
    refine go_call h1 ?_
    repeat walk_at "st"
    refine go_un rfl ?_
    refine go_un (ints_lim (by omega)) ?_
    refine keep_go (f := []) (.inl rfl) fun x => ?_
    repeat walk_at "st"
    refine go_o (op_add_ints [] _ (filter_lim (by simp only [List.length_nil]; omega))) ?_
    repeat walk_at "st"
    refine go_call h2 ?_
    repeat walk_at "st"
    refine go_un rfl ?_
    refine go_un (ints_lim (by omega)) ?_
    refine keep_go (f := extL [] a.gapsL) (.inl rfl) fun x => ?_
    repeat walk_at "st"
    refine go_o (op_add_ints (extL [] a.gapsL) _ (filter_lim (by simp only [List.length_nil] at g3; omega))) ?_
    repeat walk_at "st"
    exact go_ok rfl
theorem pgaps : ∀ (k : Kd) (n : Nat), k.dep < n → k.lv ≤ 1000000 → sem PD w n 10 [.dat k.enc] = .ok (.lst (intsD k.gapsL)) [] := by
  intro k
  induction k with
  | num =>
    intro n h _
    obtain ⟨n, rfl⟩ : ∃ m, n = m + 1 := ⟨n - 1, by omega⟩
    refine sem_go (d := d10) rfl ?_
    repeat walk_at "st"
    exact go_ok rfl
  | tru =>
    intro n h _
    obtain ⟨n, rfl⟩ : ∃ m, n = m + 1 := ⟨n - 1, by omega⟩
    refine sem_go (d := d10) rfl ?_
    repeat walk_at "st"
    exact go_ok rfl
  | any i =>
    intro n h _
    obtain ⟨n, rfl⟩ : ∃ m, n = m + 1 := ⟨n - 1, by omega⟩
    refine sem_go (d := d10) rfl ?_
    repeat walk_at "st"
    exact go_ok rfl
  | list a iha =>
    intro n h hl
    obtain ⟨n, rfl⟩ : ∃ m, n = m + 1 := ⟨n - 1, by omega⟩
    have hl : a.lv ≤ 1000000 := hl
    have g1 := gapsL_length a
    have h1 := iha n (by simp [Kd.dep] at h; omega) hl
    refine sem_go (d := d10) rfl ?_
    repeat walk_at "st"
    refine go_call h1 ?_
    repeat walk_at "st"
    refine go_un rfl ?_
    refine go_un (ints_lim (by omega)) ?_
    refine keep_go (f := []) (.inr rfl) fun x => ?_
    repeat walk_at "st"
    refine go_o (ext_ints [] _ (filter_lim (by simp only [List.length_nil]; omega))) ?_
    repeat walk_at "st"
    exact go_ok rfl
  | fn a b iha ihb =>
    intro n h hl
    obtain ⟨n, rfl⟩ : ∃ m, n = m + 1 := ⟨n - 1, by omega⟩
    have hl : a.lv + b.lv ≤ 1000000 := hl
    have g1 := gapsL_length a
    have g2 := gapsL_length b
    have g3 := extL_length [] a.gapsL
    have h1 := iha n (by simp [Kd.dep] at h; omega) (by omega)
    have h2 := ihb n (by simp [Kd.dep] at h; omega) (by omega)
    refine sem_go (d := d10) rfl ?_
    repeat walk_at "st"
    refine go_call h1 ?_
    repeat walk_at "st"
    refine go_un rfl ?_
    refine go_un (ints_lim (by omega)) ?_
    refine keep_go (f := []) (.inr rfl) fun x => ?_
    repeat walk_at "st"
    refine go_o (ext_ints [] _ (filter_lim (by simp only [List.length_nil]; omega))) ?_
    repeat walk_at "st"
    refine go_call h2 ?_
    repeat walk_at "st"
    refine go_un rfl ?_
    refine go_un (ints_lim (by omega)) ?_
    refine keep_go (f := extL [] a.gapsL) (.inr rfl) fun x => ?_
    repeat walk_at "st"
    refine go_o (ext_ints (extL [] a.gapsL) _ (filter_lim (by simp only [List.length_nil] at g3; omega))) ?_
    repeat walk_at "st"
    exact go_ok rfl
  | pair a b iha ihb =>
    intro n h hl
    obtain ⟨n, rfl⟩ : ∃ m, n = m + 1 := ⟨n - 1, by omega⟩
    have hl : a.lv + b.lv ≤ 1000000 := hl
    have g1 := gapsL_length a
    have g2 := gapsL_length b
    have g3 := extL_length [] a.gapsL
    have h1 := iha n (by simp [Kd.dep] at h; omega) (by omega)
    have h2 := ihb n (by simp [Kd.dep] at h; omega) (by omega)
    refine sem_go (d := d10) rfl ?_
    repeat walk_at "st"
    refine go_call h1 ?_
    repeat walk_at "st"
    refine go_un rfl ?_
    refine go_un (ints_lim (by omega)) ?_
    refine keep_go (f := []) (.inr rfl) fun x => ?_
    repeat walk_at "st"
    refine go_o (ext_ints [] _ (filter_lim (by simp only [List.length_nil]; omega))) ?_
    repeat walk_at "st"
    refine go_call h2 ?_
    repeat walk_at "st"
    refine go_un rfl ?_
    refine go_un (ints_lim (by omega)) ?_
    refine keep_go (f := extL [] a.gapsL) (.inr rfl) fun x => ?_
    repeat walk_at "st"
    refine go_o (ext_ints (extL [] a.gapsL) _ (filter_lim (by simp only [List.length_nil] at g3; omega))) ?_
    repeat walk_at "st"
    exact go_ok rfl
end
/-! ### renamed -/
/-- every gap g is any (σ g) -/
def Kd.ren (σ : Int → Int) : Kd → Kd
  | .num => .num
  | .tru => .tru
  | .fn a b => .fn (a.ren σ) (b.ren σ)
  | .pair a b => .pair (a.ren σ) (b.ren σ)
  | .list a => .list (a.ren σ)
  | .any k => .any (σ k)
theorem mem_extL {i : Int} {f g : List Int} : i ∈ extL f g ↔ i ∈ f ∨ i ∈ g := by
  unfold extL
  rw [List.mem_append, List.mem_filter]
  by_cases h : i ∈ f <;> simp [h]
theorem extL_nodup {f g : List Int} (hf : f.Nodup) (hg : g.Nodup) : (extL f g).Nodup := by
  unfold extL
  rw [List.nodup_append]
  refine ⟨hf, hg.filter _, fun a ha b hb => ?_⟩
  rintro rfl
  have := (List.mem_filter.mp hb).2
  simp [ha] at this
theorem gapsL_nodup : ∀ k : Kd, k.gapsL.Nodup := by
  intro k
  induction k with
  | fn a b h1 h2 => exact extL_nodup (extL_nodup List.nodup_nil h1) h2
  | pair a b h1 h2 => exact extL_nodup (extL_nodup List.nodup_nil h1) h2
  | list a h => exact extL_nodup List.nodup_nil h
  | any k => simp [Kd.gapsL]
  | _ => exact List.nodup_nil
theorem gapsOk_mono {p q : Int → Prop} (h : ∀ i, p i → q i) : ∀ {k : Kd}, k.gapsOk p → k.gapsOk q := by
  intro k
  induction k with
  | fn a b h1 h2 => exact fun x => ⟨h1 x.1, h2 x.2⟩
  | pair a b h1 h2 => exact fun x => ⟨h1 x.1, h2 x.2⟩
  | list a h1 => exact fun x => h1 x
  | any i => exact fun x => h i x
  | _ => exact fun _ => trivial
theorem gapsOk_mem : ∀ k : Kd, k.gapsOk (· ∈ k.gapsL) := by
  intro k
  induction k with
  | fn a b h1 h2 => exact ⟨gapsOk_mono (fun i h => mem_extL.mpr (.inl (mem_extL.mpr (.inr h)))) h1, gapsOk_mono (fun i h => mem_extL.mpr (.inr h)) h2⟩
  | pair a b h1 h2 => exact ⟨gapsOk_mono (fun i h => mem_extL.mpr (.inl (mem_extL.mpr (.inr h)))) h1, gapsOk_mono (fun i h => mem_extL.mpr (.inr h)) h2⟩
  | list a h => exact gapsOk_mono (fun i h => mem_extL.mpr (.inr h)) h
  | any i => show i ∈ [i]; simp
  | _ => trivial
theorem mem_gapsL {p : Int → Prop} : ∀ {k : Kd}, k.gapsOk p → ∀ i, i ∈ k.gapsL → p i := by
  intro k
  induction k with
  | fn a b h1 h2 =>
    intro h i hi
    rcases mem_extL.mp hi with hi | hi
    · rcases mem_extL.mp hi with hi | hi
      · exact (nomatch hi)
      · exact h1 h.1 i hi
    · exact h2 h.2 i hi
  | pair a b h1 h2 =>
    intro h i hi
    rcases mem_extL.mp hi with hi | hi
    · rcases mem_extL.mp hi with hi | hi
      · exact (nomatch hi)
      · exact h1 h.1 i hi
    · exact h2 h.2 i hi
  | list a h1 =>
    intro h i hi
    rcases mem_extL.mp hi with hi | hi
    · exact (nomatch hi)
    · exact h1 h i hi
  | any j =>
    intro h i hi
    rcases List.mem_singleton.mp hi with rfl
    exact h
  | _ => intro _ i hi; exact (nomatch hi)
theorem fill_ren {t : Tl} {σ : Int → Int} : ∀ {k : Kd}, k.gapsOk (fun i => getT t i = some (.any (σ i))) → k.fill t = k.ren σ := by
  intro k
  induction k with
  | fn a b h1 h2 => intro h; show Kd.fn _ _ = Kd.fn _ _; rw [h1 h.1, h2 h.2]
  | pair a b h1 h2 => intro h; show Kd.pair _ _ = Kd.pair _ _; rw [h1 h.1, h2 h.2]
  | list a h1 => intro h; show Kd.list _ = Kd.list _; rw [h1 h]
  | any i =>
    intro h
    have h : getT t i = some (.any (σ i)) := h
    show (getT t i).getD (.any i) = .any (σ i)
    rw [h]; rfl
  | _ => intro _; rfl
theorem extL_map {σ : Int → Int} {f g : List Int} (h : ∀ i j, (i ∈ f ∨ i ∈ g) → (j ∈ f ∨ j ∈ g) → σ i = σ j → i = j) : extL (f.map σ) (g.map σ) = (extL f g).map σ := by
  unfold extL
  rw [List.map_append, List.filter_map]
  congr 2
  apply List.filter_congr
  intro i hi
  simp only [Function.comp_apply]
  congr 1
  rw [decide_eq_decide]
  constructor
  · intro hm
    obtain ⟨j, hj, e⟩ := List.mem_map.mp hm
    rw [← h j i (.inl hj) (.inr hi) e]
    exact hj
  · intro hm
    exact List.mem_map.mpr ⟨i, hm, rfl⟩
theorem gapsL_ren {σ : Int → Int} : ∀ {k : Kd}, (∀ i j, i ∈ k.gapsL → j ∈ k.gapsL → σ i = σ j → i = j) → (k.ren σ).gapsL = k.gapsL.map σ := by
  intro k
  induction k with
  | fn a b h1 h2 =>
    intro h
    have ha : ∀ i, i ∈ a.gapsL → i ∈ (Kd.fn a b).gapsL := fun i hi => mem_extL.mpr (.inl (mem_extL.mpr (.inr hi)))
    have hb : ∀ i, i ∈ b.gapsL → i ∈ (Kd.fn a b).gapsL := fun i hi => mem_extL.mpr (.inr hi)
    show extL (extL [] (a.ren σ).gapsL) (b.ren σ).gapsL = (extL (extL [] a.gapsL) b.gapsL).map σ
    rw [h1 fun i j hi hj => h i j (ha i hi) (ha j hj), h2 fun i j hi hj => h i j (hb i hi) (hb j hj)]
    rw [show extL [] (a.gapsL.map σ) = (extL [] a.gapsL).map σ from extL_map (f := []) fun i j hi hj => h i j (ha i (by simpa using hi)) (ha j (by simpa using hj))]
    refine extL_map fun i j hi hj => h i j (mem_extL.mpr hi) (mem_extL.mpr hj)
  | pair a b h1 h2 =>
    intro h
    have ha : ∀ i, i ∈ a.gapsL → i ∈ (Kd.pair a b).gapsL := fun i hi => mem_extL.mpr (.inl (mem_extL.mpr (.inr hi)))
    have hb : ∀ i, i ∈ b.gapsL → i ∈ (Kd.pair a b).gapsL := fun i hi => mem_extL.mpr (.inr hi)
    show extL (extL [] (a.ren σ).gapsL) (b.ren σ).gapsL = (extL (extL [] a.gapsL) b.gapsL).map σ
    rw [h1 fun i j hi hj => h i j (ha i hi) (ha j hj), h2 fun i j hi hj => h i j (hb i hi) (hb j hj)]
    rw [show extL [] (a.gapsL.map σ) = (extL [] a.gapsL).map σ from extL_map (f := []) fun i j hi hj => h i j (ha i (by simpa using hi)) (ha j (by simpa using hj))]
    refine extL_map fun i j hi hj => h i j (mem_extL.mpr hi) (mem_extL.mpr hj)
  | list a h1 =>
    intro h
    have ha : ∀ i, i ∈ a.gapsL → i ∈ (Kd.list a).gapsL := fun i hi => mem_extL.mpr (.inr hi)
    show extL [] (a.ren σ).gapsL = (extL [] a.gapsL).map σ
    rw [h1 fun i j hi hj => h i j (ha i hi) (ha j hj)]
    exact extL_map (f := []) fun i j hi hj => h i j (ha i (by simpa using hi)) (ha j (by simpa using hj))
  | _ => intro _; rfl
end KS

set_option Elab.async false
set_option linter.all false
set_option maxRecDepth 100000
/-! Uni: what makes two kinds the same, in plain words: how it goes, that it ends, what it tells. -/
namespace KS
open PySem L2
/-! ## fillings as functions -/
theorem mem1 {g : Int} {l : List Int} : g ∈ extL [] l ↔ g ∈ l := by rw [mem_extL]; simp
theorem mem2 {g : Int} {l r : List Int} : g ∈ extL (extL [] l) r ↔ g ∈ l ∨ g ∈ r := by rw [mem_extL, mem1]
def Kd.app (θ : Int → Kd) : Kd → Kd
  | .num => .num
  | .tru => .tru
  | .fn a b => .fn (a.app θ) (b.app θ)
  | .pair a b => .pair (a.app θ) (b.app θ)
  | .list a => .list (a.app θ)
  | .any k => θ k
def fnT (t : Tl) (g : Int) : Kd := (getT t g).getD (.any g)
theorem fill_app (t : Tl) : ∀ k : Kd, k.fill t = k.app (fnT t) := by
  intro k
  induction k <;> simp_all [Kd.fill, Kd.app, fnT]
theorem app_app (θ φ : Int → Kd) : ∀ k : Kd, (k.app φ).app θ = k.app fun g => (φ g).app θ := by
  intro k
  induction k <;> simp_all [Kd.app]
theorem app_congr {θ φ : Int → Kd} : ∀ {k : Kd}, (∀ g, g ∈ k.gapsL → θ g = φ g) → k.app θ = k.app φ := by
  intro k
  induction k with
  | fn a b ia ib => intro h; show Kd.fn _ _ = Kd.fn _ _; rw [ia fun g hg => h g (mem2.mpr (.inl hg)), ib fun g hg => h g (mem2.mpr (.inr hg))]
  | pair a b ia ib => intro h; show Kd.pair _ _ = Kd.pair _ _; rw [ia fun g hg => h g (mem2.mpr (.inl hg)), ib fun g hg => h g (mem2.mpr (.inr hg))]
  | list a ia => intro h; show Kd.list _ = Kd.list _; rw [ia fun g hg => h g (mem1.mpr hg)]
  | any i => intro h; exact h i (List.mem_singleton.mpr rfl)
  | _ => intro _; rfl
theorem app_any : ∀ k : Kd, k.app .any = k := by
  intro k
  induction k <;> simp_all [Kd.app]
theorem app_id {θ : Int → Kd} {k : Kd} (h : ∀ g, g ∈ k.gapsL → θ g = .any g) : k.app θ = k := (app_congr h).trans (app_any k)
theorem dep_app (θ : Int → Kd) : ∀ k : Kd, k.dep ≤ (k.app θ).dep := by
  intro k
  induction k with
  | fn a b ia ib => show max a.dep b.dep + 1 ≤ max _ _ + 1; omega
  | pair a b ia ib => show max a.dep b.dep + 1 ≤ max _ _ + 1; omega
  | list a ia => exact Nat.succ_le_succ ia
  | _ => exact Nat.zero_le _
theorem dep_gap (θ : Int → Kd) (i : Int) : ∀ k : Kd, i ∈ k.gapsL → (θ i).dep ≤ (k.app θ).dep := by
  intro k
  induction k with
  | fn a b ia ib => intro h; show _ ≤ max _ _ + 1; rcases mem2.mp h with h | h; have := ia h; omega; have := ib h; omega
  | pair a b ia ib => intro h; show _ ≤ max _ _ + 1; rcases mem2.mp h with h | h; have := ia h; omega; have := ib h; omega
  | list a ia => intro h; exact Nat.le_succ_of_le (ia (mem1.mp h))
  | any j => intro h; rcases List.mem_singleton.mp h with rfl; exact Nat.le_refl _
  | _ => intro h; exact nomatch h
theorem app_dep {θ : Int → Kd} {n : Nat} : ∀ k : Kd, (∀ g, g ∈ k.gapsL → (θ g).dep ≤ n) → (k.app θ).dep ≤ k.dep + n := by
  intro k
  induction k with
  | fn a b ia ib => intro h; have h1 := ia fun g hg => h g (mem2.mpr (.inl hg)); have h2 := ib fun g hg => h g (mem2.mpr (.inr hg)); show max _ _ + 1 ≤ max a.dep b.dep + 1 + n; omega
  | pair a b ia ib => intro h; have h1 := ia fun g hg => h g (mem2.mpr (.inl hg)); have h2 := ib fun g hg => h g (mem2.mpr (.inr hg)); show max _ _ + 1 ≤ max a.dep b.dep + 1 + n; omega
  | list a ia => intro h; have h1 := ia fun g hg => h g (mem1.mpr hg); show _ + 1 ≤ a.dep + 1 + n; omega
  | any j => intro h; have := h j (List.mem_singleton.mpr rfl); show (θ j).dep ≤ 0 + n; omega
  | _ => intro _; exact Nat.zero_le _
theorem gaps_app {θ : Int → Kd} {V : List Int} : ∀ k : Kd, (∀ g, g ∈ k.gapsL → ∀ j, j ∈ (θ g).gapsL → j ∈ V) → ∀ j, j ∈ (k.app θ).gapsL → j ∈ V := by
  intro k
  induction k with
  | fn a b ia ib => intro h j hj; rcases mem2.mp hj with hj | hj; exact ia (fun g hg => h g (mem2.mpr (.inl hg))) j hj; exact ib (fun g hg => h g (mem2.mpr (.inr hg))) j hj
  | pair a b ia ib => intro h j hj; rcases mem2.mp hj with hj | hj; exact ia (fun g hg => h g (mem2.mpr (.inl hg))) j hj; exact ib (fun g hg => h g (mem2.mpr (.inr hg))) j hj
  | list a ia => intro h j hj; exact ia (fun g hg => h g (mem1.mpr hg)) j (mem1.mp hj)
  | any i => intro h j hj; exact h i (List.mem_singleton.mpr rfl) j hj
  | _ => intro _ j hj; exact nomatch hj
/-! ## what is told, grown -/
def grow (t : Tl) (i : Int) (y : Kd) : Tl := (t.map fun p => (p.1, p.2.fill [(i, y)])) ++ [(i, y)]
/-- no gap of it within it -/
structure TOk (t : Tl) : Prop where
  nd : TlNd t
  out : ∀ p, p ∈ t → ∀ g, g ∈ p.2.gapsL → getT t g = none
theorem getT_none {t : Tl} {g : Int} : getT t g = none ↔ g ∉ t.map (·.1) := by
  unfold getT
  rw [Option.map_eq_none_iff, List.find?_eq_none]
  constructor
  · intro h z
    obtain ⟨p, hp, e⟩ := List.mem_map.mp z
    exact h p hp (by simpa using e)
  · intro h p hp e
    exact h (List.mem_map.mpr ⟨p, hp, by simpa using e⟩)
theorem getT_in {t : Tl} {g : Int} {v : Kd} (h : getT t g = some v) : (g, v) ∈ t := by
  unfold getT at h
  obtain ⟨p, hp, e⟩ := Option.map_eq_some_iff.mp h
  have := List.mem_of_find?_eq_some hp
  have e1 := List.find?_some hp
  have e1 : p.1 = g := by simpa using e1
  rw [← e1, ← e]
  exact this
theorem getT_one (i g : Int) (y : Kd) : getT [(i, y)] g = if i = g then some y else none := by
  unfold getT
  rw [List.find?_cons]
  by_cases h : i = g
  · simp [h]
  · simp [h]
theorem getT_grow {t : Tl} {i : Int} {y : Kd} (hi : getT t i = none) (g : Int) : getT (grow t i y) g = match getT t g with
    | some v => some (v.fill [(i, y)])
    | none => if i = g then some y else none := by
  have e : ∀ t : Tl, getT (t.map (fun p => (p.1, p.2.fill [(i, y)])) ++ [(i, y)]) g = match getT t g with
    | some v => some (v.fill [(i, y)])
    | none => if i = g then some y else none := by
    intro t
    induction t with
    | nil => exact getT_one i g y
    | cons p t ih =>
      by_cases h : p.1 = g
      · unfold getT
        simp [h]
      · have e1 : getT ((p :: t).map (fun p => (p.1, p.2.fill [(i, y)])) ++ [(i, y)]) g = getT (t.map (fun p => (p.1, p.2.fill [(i, y)])) ++ [(i, y)]) g := by
          unfold getT
          simp [h]
        have e2 : getT (p :: t) g = getT t g := by
          unfold getT
          simp [h]
        rw [e1, e2]
        exact ih
  exact e t
theorem fill_grow {t : Tl} {i : Int} {y : Kd} (hi : getT t i = none) : ∀ k : Kd, k.fill (grow t i y) = (k.fill t).fill [(i, y)] := by
  intro k
  rw [fill_app, fill_app t, fill_app, app_app]
  congr 1
  funext g
  show fnT (grow t i y) g = (fnT t g).app (fnT [(i, y)])
  unfold fnT
  rw [getT_grow hi]
  cases h : getT t g with
  | some v => exact fill_app _ v
  | none =>
    show (if i = g then some y else none).getD (.any g) = (getT [(i, y)] g).getD (.any g)
    rw [getT_one]
theorem gaps_one {i : Int} {y : Kd} : ∀ (k : Kd) (g : Int), g ∈ (k.fill [(i, y)]).gapsL → (g ∈ k.gapsL ∧ g ≠ i) ∨ g ∈ y.gapsL := by
  intro k
  induction k with
  | fn a b ia ib => intro g h; rcases mem2.mp h with h | h; exact (ia g h).imp (fun z => ⟨mem2.mpr (.inl z.1), z.2⟩) id; exact (ib g h).imp (fun z => ⟨mem2.mpr (.inr z.1), z.2⟩) id
  | pair a b ia ib => intro g h; rcases mem2.mp h with h | h; exact (ia g h).imp (fun z => ⟨mem2.mpr (.inl z.1), z.2⟩) id; exact (ib g h).imp (fun z => ⟨mem2.mpr (.inr z.1), z.2⟩) id
  | list a ia => intro g h; exact (ia g (mem1.mp h)).imp (fun z => ⟨mem1.mpr z.1, z.2⟩) id
  | any j =>
    intro g h
    have h : g ∈ ((getT [(i, y)] j).getD (.any j)).gapsL := h
    rw [getT_one] at h
    by_cases e : i = j
    · rw [if_pos e] at h; exact .inr h
    · rw [if_neg e] at h
      rcases List.mem_singleton.mp h with rfl
      exact .inl ⟨List.mem_singleton.mpr rfl, fun z => e z.symm⟩
  | _ => intro g h; exact nomatch h
theorem TOk.grow {t : Tl} (h : TOk t) {i : Int} {y : Kd} (hi : getT t i = none) (hy : i ∉ y.gapsL) (ho : ∀ g, g ∈ y.gapsL → getT t g = none) : TOk (grow t i y) := by
  have nn : ∀ g, getT t g = none → g ≠ i → getT (KS.grow t i y) g = none := fun g h1 h2 => by
    rw [getT_grow hi, h1]
    exact if_neg fun z => h2 z.symm
  refine ⟨?_, fun p hp g hg => ?_⟩
  · unfold TlNd KS.grow
    rw [List.map_append, List.map_map, List.nodup_append]
    refine ⟨h.nd, by simp, fun a ha b hb => ?_⟩
    rcases List.mem_singleton.mp hb with rfl
    rintro rfl
    exact getT_none.mp hi ha
  · rcases List.mem_append.mp hp with hp | hp
    · obtain ⟨q, hq, rfl⟩ := List.mem_map.mp hp
      rcases gaps_one q.2 g hg with z | z
      · exact nn g (h.out q hq g z.1) z.2
      · exact nn g (ho g z) fun e => hy (e ▸ z)
    · rcases List.mem_singleton.mp hp with rfl
      exact nn g (ho g hg) fun e => hy (e ▸ hg)
theorem TOk.nil : TOk [] := ⟨List.nodup_nil, fun _ h => nomatch h⟩
/-- a filled kind has no gap that is told -/
theorem TOk.filled {t : Tl} (h : TOk t) : ∀ (k : Kd) (g : Int), g ∈ (k.fill t).gapsL → getT t g = none := by
  intro k
  induction k with
  | fn a b ia ib => intro g hg; rcases mem2.mp hg with hg | hg; exact ia g hg; exact ib g hg
  | pair a b ia ib => intro g hg; rcases mem2.mp hg with hg | hg; exact ia g hg; exact ib g hg
  | list a ia => intro g hg; exact ia g (mem1.mp hg)
  | any j =>
    intro g hg
    have hg : g ∈ ((getT t j).getD (.any j)).gapsL := hg
    cases e : getT t j with
    | some v => rw [e] at hg; exact h.out _ (getT_in e) g hg
    | none => rw [e] at hg; rcases List.mem_singleton.mp hg with rfl; exact e
  | _ => intro g hg; exact nomatch hg
/-! ## how it goes -/
/-- a gap comes first -/
def ori (x y : Kd) : Kd × Kd := match y with
  | .any _ => (y, x)
  | _ => (x, y)
def Kd.tag : Kd → Nat
  | .any _ => 0
  | .num => 1
  | .tru => 2
  | .fn _ _ => 3
  | .pair _ _ => 4
  | .list _ => 5
/-- how big the things are that are come to -/
structure Sz (E : Nat) (V : List Int) (t : Tl) (a b : Kd) : Prop where
  ok : TOk t
  da : a.dep ≤ E
  db : b.dep ≤ E
  fa : (a.fill t).dep ≤ E
  fb : (b.fill t).dep ≤ E
  ga : ∀ g, g ∈ (a.fill t).gapsL → g ∈ V
  gb : ∀ g, g ∈ (b.fill t).gapsL → g ∈ V
  ts : ∀ p, p ∈ t → p.1 ∈ V ∧ p.2.dep ≤ E ∧ ∀ g, g ∈ p.2.gapsL → g ∈ V
theorem ori_cases (x y : Kd) : (ori x y = (x, y) ∧ y.tag ≠ 0) ∨ (ori x y = (y, x) ∧ y.tag = 0) := by
  cases y with
  | any i => exact .inr ⟨rfl, rfl⟩
  | _ => exact .inl ⟨rfl, fun z => nomatch z⟩
theorem tag_any {x : Kd} (h : x.tag = 0) : ∃ i, x = .any i := by
  cases x with
  | any i => exact ⟨i, rfl⟩
  | _ => exact nomatch h
theorem ori_snd {x y u v : Kd} (h : ori x y = (u, v)) (hu : u.tag ≠ 0) : v.tag ≠ 0 := by
  rcases ori_cases x y with ⟨e, c⟩ | ⟨e, c⟩
  · rw [e] at h; cases h; exact c
  · rw [e] at h; cases h; exact (hu c).elim
theorem ori_mem {x y u v : Kd} (h : ori x y = (u, v)) : (u = x ∧ v = y) ∨ (u = y ∧ v = x) := by
  rcases ori_cases x y with ⟨e, _⟩ | ⟨e, _⟩
  · rw [e] at h; cases h; exact .inl ⟨rfl, rfl⟩
  · rw [e] at h; cases h; exact .inr ⟨rfl, rfl⟩
/-- which of two comes first -/
structure Ori (o : Kd → Kd → Kd × Kd) : Prop where
  mem : ∀ {x y u v : Kd}, o x y = (u, v) → (u = x ∧ v = y) ∨ (u = y ∧ v = x)
  snd : ∀ {x y u v : Kd}, o x y = (u, v) → u.tag ≠ 0 → v.tag ≠ 0
theorem oriP : Ori ori := ⟨ori_mem, ori_snd⟩
/-- the law's way -/
def ori2 (x y : Kd) : Kd × Kd := match x with
  | .any _ => (x, y)
  | _ => (y, x)
theorem ori2_cases (x y : Kd) : (ori2 x y = (y, x) ∧ x.tag ≠ 0) ∨ (ori2 x y = (x, y) ∧ x.tag = 0) := by
  cases x with
  | any i => exact .inr ⟨rfl, rfl⟩
  | _ => exact .inl ⟨rfl, fun z => nomatch z⟩
theorem oriL : Ori ori2 := ⟨fun {x y u v} h => by
  rcases ori2_cases x y with ⟨e, _⟩ | ⟨e, _⟩
  · rw [e] at h; cases h; exact .inr ⟨rfl, rfl⟩
  · rw [e] at h; cases h; exact .inl ⟨rfl, rfl⟩, fun {x y u v} h hu => by
  rcases ori2_cases x y with ⟨e, c⟩ | ⟨e, c⟩
  · rw [e] at h; cases h; exact c
  · rw [e] at h; cases h; exact (hu c).elim⟩
section
variable {o : Kd → Kd → Kd × Kd}
/-- a pair is worked off: h how high the heap gets, w how many turns -/
inductive Un (o : Kd → Kd → Kd × Kd) (E : Nat) (V : List Int) : Nat → Nat → Tl → Kd → Kd → Option Tl → Prop
  | eq {h w t a b x} : Sz E V t a b → 1 ≤ w → o (a.fill t) (b.fill t) = (x, x) → Un o E V h w t a b (some t)
  | occ {h w t a b i y} : Sz E V t a b → 1 ≤ w → o (a.fill t) (b.fill t) = (.any i, y) → .any i ≠ y → i ∈ y.gapsL → Un o E V h w t a b none
  | bind {h w t a b i y} : Sz E V t a b → 1 ≤ w → o (a.fill t) (b.fill t) = (.any i, y) → .any i ≠ y → i ∉ y.gapsL → Un o E V h w t a b (some (grow t i y))
  | clash {h w t a b x y} : Sz E V t a b → 1 ≤ w → o (a.fill t) (b.fill t) = (x, y) → x.tag ≠ 0 → x.tag ≠ y.tag → Un o E V h w t a b none
  | d1 {h w w1 t a b u v r} : Sz E V t a b → w1 + 1 ≤ w → o (a.fill t) (b.fill t) = (.list u, .list v) → u ≠ v → Un o E V h w1 t u v r → Un o E V (h + 1) w t a b r
  | d2n {h w w1 t a b x y u1 u2 v1 v2} : Sz E V t a b → w1 + 1 ≤ w → o (a.fill t) (b.fill t) = (x, y) → (x = .fn u1 u2 ∧ y = .fn v1 v2 ∨ x = .pair u1 u2 ∧ y = .pair v1 v2) → x ≠ y → Un o E V h w1 t u2 v2 none → Un o E V (h + 1) w t a b none
  | d2 {h w w1 w2 t t1 a b x y u1 u2 v1 v2 r} : Sz E V t a b → w1 + w2 + 1 ≤ w → o (a.fill t) (b.fill t) = (x, y) → (x = .fn u1 u2 ∧ y = .fn v1 v2 ∨ x = .pair u1 u2 ∧ y = .pair v1 v2) → x ≠ y → Un o E V h w1 t u2 v2 (some t1) → Un o E V h w2 t1 u1 v1 r → Un o E V (h + 1) w t a b r
theorem Un.mono {E V h w t a b r} (u : Un o E V h w t a b r) : ∀ {h' w'}, h ≤ h' → w ≤ w' → Un o E V h' w' t a b r := by
  induction u with
  | eq s hw e => intro h' w' _ hw'; exact .eq s (by omega) e
  | occ s hw e n m => intro h' w' _ hw'; exact .occ s (by omega) e n m
  | bind s hw e n m => intro h' w' _ hw'; exact .bind s (by omega) e n m
  | clash s hw e n m => intro h' w' _ hw'; exact .clash s (by omega) e n m
  | d1 s hw e n _ ih =>
    intro h' w' hh hw'
    obtain ⟨k, rfl⟩ : ∃ k, h' = k + 1 := ⟨h' - 1, by omega⟩
    exact .d1 s (by omega) e n (ih (by omega) (Nat.le_refl _))
  | d2n s hw e c n _ ih =>
    intro h' w' hh hw'
    obtain ⟨k, rfl⟩ : ∃ k, h' = k + 1 := ⟨h' - 1, by omega⟩
    exact .d2n s (by omega) e c n (ih (by omega) (Nat.le_refl _))
  | d2 s hw e c n _ _ i1 i2 =>
    intro h' w' hh hw'
    obtain ⟨k, rfl⟩ : ∃ k, h' = k + 1 := ⟨h' - 1, by omega⟩
    exact .d2 s (by omega) e c n (i1 (by omega) (Nat.le_refl _)) (i2 (by omega) (Nat.le_refl _))
/-! ## what it tells -/
/-- θ fills as t tells -/
def Mod (θ : Int → Kd) (t : Tl) : Prop := ∀ g v, getT t g = some v → v.app θ = θ g
theorem Mod.fill {θ : Int → Kd} {t : Tl} (m : Mod θ t) (k : Kd) : (k.fill t).app θ = k.app θ := by
  rw [fill_app, app_app]
  congr 1
  funext g
  unfold fnT
  cases h : getT t g with
  | some v => exact m g v h
  | none => rfl
theorem Mod.nil {θ : Int → Kd} : Mod θ [] := fun g v h => nomatch h
theorem Mod.grow {θ : Int → Kd} {t : Tl} {i : Int} {y : Kd} (m : Mod θ t) (hi : getT t i = none) (h : y.app θ = θ i) : Mod θ (grow t i y) := fun g v e => by
  have one : Mod θ [(i, y)] := fun g v e => by
    rw [getT_one] at e
    by_cases c : i = g
    · rw [if_pos c] at e; cases e; rw [← c]; exact h
    · rw [if_neg c] at e; cases e
  rw [getT_grow hi] at e
  cases q : getT t g with
  | some u =>
    rw [q] at e
    cases e
    rw [one.fill]
    exact m g u q
  | none =>
    rw [q] at e
    by_cases c : i = g
    · have e : (if i = g then some y else none) = some v := e
      rw [if_pos c] at e; cases e; rw [← c]; exact h
    · have e : (if i = g then some y else none) = some v := e
      rw [if_neg c] at e; cases e
theorem occ_no {θ : Int → Kd} {i : Int} {y : Kd} (hi : i ∈ y.gapsL) (n : Kd.any i ≠ y) : θ i ≠ y.app θ := by
  intro e
  have lt : ∀ y : Kd, i ∈ y.gapsL → Kd.any i ≠ y → (θ i).dep < (y.app θ).dep := by
    intro y
    cases y with
    | fn a b => intro h _; show _ < max _ _ + 1; rcases mem2.mp h with h | h; have := dep_gap θ i a h; omega; have := dep_gap θ i b h; omega
    | pair a b => intro h _; show _ < max _ _ + 1; rcases mem2.mp h with h | h; have := dep_gap θ i a h; omega; have := dep_gap θ i b h; omega
    | list a => intro h _; exact Nat.lt_succ_of_le (dep_gap θ i a (mem1.mp h))
    | any j => intro h n; rcases List.mem_singleton.mp h with rfl; exact (n rfl).elim
    | _ => intro h; exact nomatch h
  have := lt y hi n
  rw [e] at this
  omega
theorem ori_eq (O : Ori o) {θ : Int → Kd} {t : Tl} {a b x y : Kd} (m : Mod θ t) (e : a.app θ = b.app θ) (h : o (a.fill t) (b.fill t) = (x, y)) : x.app θ = y.app θ := by
  rcases O.mem h with ⟨rfl, rfl⟩ | ⟨rfl, rfl⟩
  · rw [m.fill, m.fill, e]
  · rw [m.fill, m.fill, e]
theorem Sz.free {E V t a b i y} (s : Sz E V t a b) (O : Ori o) (h : o (a.fill t) (b.fill t) = (.any i, y)) : getT t i = none ∧ ∀ g, g ∈ y.gapsL → getT t g = none := by
  rcases O.mem h with ⟨e1, e2⟩ | ⟨e1, e2⟩
  · exact ⟨s.ok.filled a i (by rw [← e1]; exact List.mem_singleton.mpr rfl), fun g hg => s.ok.filled b g (by rw [← e2]; exact hg)⟩
  · exact ⟨s.ok.filled b i (by rw [← e1]; exact List.mem_singleton.mpr rfl), fun g hg => s.ok.filled a g (by rw [← e2]; exact hg)⟩
/-- whoever fills so that they are the same fills as it tells -/
theorem Un.wide (O : Ori o) {E V h w t a b r} (u : Un o E V h w t a b r) : ∀ {θ : Int → Kd}, Mod θ t → a.app θ = b.app θ → ∃ t', r = some t' ∧ Mod θ t' := by
  induction u with
  | eq s hw e => intro θ m c; exact ⟨_, rfl, m⟩
  | occ s hw e n i => intro θ m c; exact (occ_no i n (ori_eq O m c e)).elim
  | bind s hw e n i => intro θ m c; exact ⟨_, rfl, m.grow (s.free O e).1 (ori_eq O m c e).symm⟩
  | @clash h w t a b x y s hw e n i =>
    intro θ m c
    have q := ori_eq O m c e
    have ny := O.snd e n
    exfalso
    cases x <;> cases y <;> first | exact n rfl | exact ny rfl | exact i rfl | exact nomatch q
  | d1 s hw e n _ ih =>
    intro θ m c
    have q := ori_eq O m c e
    injection q with q
    exact ih m q
  | d2n s hw e c n _ ih =>
    intro θ m cc
    have q := ori_eq O m cc e
    rcases c with ⟨rfl, rfl⟩ | ⟨rfl, rfl⟩ <;> (injection q with q1 q2; exact ih m q2)
  | d2 s hw e c n _ _ i1 i2 =>
    intro θ m cc
    have q := ori_eq O m cc e
    rcases c with ⟨rfl, rfl⟩ | ⟨rfl, rfl⟩
    · injection q with q1 q2
      obtain ⟨t', e1, m1⟩ := i1 m q2
      cases e1
      exact i2 m1 q1
    · injection q with q1 q2
      obtain ⟨t', e1, m1⟩ := i1 m q2
      cases e1
      exact i2 m1 q1
/-- t' tells what t tells and more -/
def Ext (t t' : Tl) : Prop := ∀ k : Kd, (k.fill t).fill t' = k.fill t'
theorem Ext.refl {t : Tl} (h : TOk t) : Ext t t := fun k => by
  rw [fill_app t (k.fill t)]
  refine app_id fun g hg => ?_
  unfold fnT
  rw [h.filled k g hg]
  rfl
theorem Ext.trans {t t1 t2 : Tl} (a : Ext t t1) (b : Ext t1 t2) : Ext t t2 := fun k => by
  rw [← b (k.fill t), a k, b k]
theorem Ext.grow {t : Tl} {i : Int} {y : Kd} (h : TOk t) (hi : getT t i = none) : Ext t (grow t i y) := fun k => by
  rw [fill_grow hi, fill_grow hi, Ext.refl h]
/-- it makes them the same -/
theorem Un.same (O : Ori o) {E V h w t a b r} (u : Un o E V h w t a b r) : ∀ t', r = some t' → TOk t' ∧ Ext t t' ∧ a.fill t' = b.fill t' := by
  have via : ∀ {t t' : Tl} {a b x y : Kd}, Ext t t' → o (a.fill t) (b.fill t) = (x, y) → x.fill t' = y.fill t' → a.fill t' = b.fill t' := fun {t t' a b x y} e o h => by
    rw [← e a, ← e b]
    rcases O.mem o with ⟨rfl, rfl⟩ | ⟨rfl, rfl⟩
    · exact h
    · exact h.symm
  induction u with
  | eq s hw e => intro t' z; cases z; exact ⟨s.ok, Ext.refl s.ok, via (Ext.refl s.ok) e rfl⟩
  | occ => intro t' z; cases z
  | @bind h w t a b i y s hw e n hi =>
    intro t' z
    cases z
    have f := s.free O e
    have ex := Ext.grow (y := y) s.ok f.1
    refine ⟨s.ok.grow f.1 hi f.2, ex, via ex e ?_⟩
    show (getT (KS.grow t i y) i).getD (.any i) = y.fill _
    rw [getT_grow f.1, f.1]
    show (if i = i then some y else none).getD (.any i) = _
    rw [if_pos rfl]
    show y = _
    rw [fill_app]
    refine (app_id fun g hg => ?_).symm
    unfold fnT
    rw [getT_grow f.1, f.2 g hg]
    show (if i = g then some y else none).getD (.any g) = _
    rw [if_neg (show ¬ i = g from fun z => hi (by rw [z]; exact hg))]
    rfl
  | clash => intro t' z; cases z
  | d1 s hw e n _ ih =>
    intro t' z
    obtain ⟨i1, i2, i3⟩ := ih t' z
    exact ⟨i1, i2, via i2 e (congrArg Kd.list i3)⟩
  | d2n => intro t' z; cases z
  | d2 s hw e c n _ _ i1 i2 =>
    intro t' z
    obtain ⟨j1, j2, j3⟩ := i1 _ rfl
    obtain ⟨k1, k2, k3⟩ := i2 t' z
    have ex := j2.trans k2
    refine ⟨k1, ex, via ex e ?_⟩
    have j4 := congrArg (Kd.fill t') j3
    rw [k2, k2] at j4
    rcases c with ⟨rfl, rfl⟩ | ⟨rfl, rfl⟩
    · show Kd.fn _ _ = Kd.fn _ _; rw [k3, j4]
    · show Kd.pair _ _ = Kd.pair _ _; rw [k3, j4]
/-! ## that it ends -/
def unb (V : List Int) (t : Tl) : Nat := (V.filter fun g => (getT t g).isNone).length
theorem unb_grow {V : List Int} {t : Tl} {i : Int} {y : Kd} (hi : getT t i = none) (hV : i ∈ V) : unb V (grow t i y) < unb V t := by
  unfold unb
  have sub : ∀ g, (getT (grow t i y) g).isNone = true → (getT t g).isNone = true := fun g h => by
    rw [getT_grow hi] at h
    cases q : getT t g with
    | some v => rw [q] at h; exact nomatch h
    | none => rfl
  have no : (getT (grow t i y) i).isNone = false := by
    rw [getT_grow hi, hi]
    show (if i = i then some y else none).isNone = false
    rw [if_pos rfl]; rfl
  have key : ∀ V : List Int, (V.filter fun g => (getT (grow t i y) g).isNone).length ≤ (V.filter fun g => (getT t g).isNone).length ∧ (i ∈ V → (V.filter fun g => (getT (grow t i y) g).isNone).length < (V.filter fun g => (getT t g).isNone).length) := by
    intro V
    induction V with
    | nil => exact ⟨Nat.le_refl _, fun h => nomatch h⟩
    | cons g V ih =>
      rw [List.filter_cons, List.filter_cons]
      cases q : (getT (grow t i y) g).isNone with
      | true =>
        rw [sub g q]
        simp only [if_true, List.length_cons]
        refine ⟨by omega, fun h => ?_⟩
        rcases List.mem_cons.mp h with rfl | h
        · rw [no] at q; exact nomatch q
        · have := ih.2 h; omega
      | false =>
        have h0 : (if false = true then g :: List.filter (fun g => (getT (grow t i y) g).isNone) V else List.filter (fun g => (getT (grow t i y) g).isNone) V) = List.filter (fun g => (getT (grow t i y) g).isNone) V := if_neg (fun z => nomatch z)
        rw [h0]
        cases p : (getT t g).isNone with
        | true =>
          simp only [if_true, List.length_cons]
          exact ⟨by omega, fun _ => by omega⟩
        | false =>
          have h1 : (if false = true then g :: List.filter (fun g => (getT t g).isNone) V else List.filter (fun g => (getT t g).isNone) V) = List.filter (fun g => (getT t g).isNone) V := if_neg (fun z => nomatch z)
          rw [h1]
          refine ⟨ih.1, fun h => ?_⟩
          rcases List.mem_cons.mp h with rfl | h
          · rw [hi] at p; exact nomatch p
          · exact ih.2 h
  exact (key V).2 hV
/-- a property of the pairs that are worked off, that keeps them small -/
structure Keeps (o : Kd → Kd → Kd × Kd) (E : Nat) (V : List Int) (I : Tl → Kd → Kd → Prop) : Prop where
  sz : ∀ t a b, TOk t → I t a b → Sz E V t a b
  d1 : ∀ t a b u v, TOk t → I t a b → o (a.fill t) (b.fill t) = (.list u, .list v) → I t u v
  d2 : ∀ t a b x y u1 u2 v1 v2, TOk t → I t a b → o (a.fill t) (b.fill t) = (x, y) → (x = .fn u1 u2 ∧ y = .fn v1 v2 ∨ x = .pair u1 u2 ∧ y = .pair v1 v2) → I t u1 v1 ∧ I t u2 v2
  bd : ∀ t a b i y c d, TOk t → I t a b → o (a.fill t) (b.fill t) = (.any i, y) → .any i ≠ y → i ∉ y.gapsL → I t c d → I (grow t i y) c d
theorem un_ex (O : Ori o) {E : Nat} {V : List Int} {I : Tl → Kd → Kd → Prop} (K : Keeps o E V I) : ∀ (m : Nat) (t : Tl) (a b : Kd) (δ : Nat), TOk t → I t a b → (a.fill t).dep ≤ δ → (b.fill t).dep ≤ δ → unb V t * (E + 1) + δ ≤ m →
    ∃ r, Un o E V (m + 1) (2 ^ (m + 1) - 1) t a b r ∧ ∀ t', r = some t' → TOk t' ∧ (t' = t ∨ unb V t' < unb V t) ∧ ∀ c d, I t c d → I t' c d := by
  have pw : ∀ m, 1 ≤ 2 ^ (m + 1) - 1 := fun m => by
    have : 1 ≤ 2 ^ m := Nat.one_le_pow _ _ (by decide)
    rw [Nat.pow_succ]; omega
  intro m
  induction m with
  | zero =>
    intro t a b δ ok i ha hb hm
    have s := K.sz t a b ok i
    obtain ⟨⟨x, y⟩, e⟩ : ∃ p, o (a.fill t) (b.fill t) = p := ⟨_, rfl⟩
    have d0 : x.dep = 0 ∧ y.dep = 0 := by rcases O.mem e with ⟨rfl, rfl⟩ | ⟨rfl, rfl⟩ <;> omega
    by_cases hx : x.tag = 0
    · obtain ⟨j, rfl⟩ := tag_any hx
      by_cases hy : Kd.any j = y
      · subst hy; exact ⟨_, .eq s (pw _) e, fun t' z => by cases z; exact ⟨ok, .inl rfl, fun _ _ h => h⟩⟩
      · by_cases hj : j ∈ y.gapsL
        · exact ⟨_, .occ s (pw _) e hy hj, fun t' z => nomatch z⟩
        · have f := s.free O e
          have jV : j ∈ V := by
            rcases O.mem e with ⟨e1, _⟩ | ⟨e1, _⟩
            · exact s.ga j (by rw [← e1]; exact List.mem_singleton.mpr rfl)
            · exact s.gb j (by rw [← e1]; exact List.mem_singleton.mpr rfl)
          exact ⟨_, .bind s (pw _) e hy hj, fun t' z => by cases z; exact ⟨ok.grow f.1 hj f.2, .inr (unb_grow f.1 jV), fun c d h => K.bd t a b j y c d ok i e hy hj h⟩⟩
    · by_cases ht : x.tag = y.tag
      · have : x = y := by cases x <;> cases y <;> first | rfl | exact (hx rfl).elim | exact absurd d0.1 (Nat.succ_ne_zero _) | exact absurd d0.2 (Nat.succ_ne_zero _) | (cases ht; done)
        subst this
        exact ⟨_, .eq s (pw _) e, fun t' z => by cases z; exact ⟨ok, .inl rfl, fun _ _ h => h⟩⟩
      · exact ⟨_, .clash s (pw _) e hx ht, fun t' z => nomatch z⟩
  | succ m ih =>
    intro t a b δ ok i ha hb hm
    have s := K.sz t a b ok i
    obtain ⟨⟨x, y⟩, e⟩ : ∃ p, o (a.fill t) (b.fill t) = p := ⟨_, rfl⟩
    have dd : x.dep ≤ δ ∧ y.dep ≤ δ := by rcases O.mem e with ⟨rfl, rfl⟩ | ⟨rfl, rfl⟩ <;> omega
    have p2 : 2 ^ (m + 1 + 1) = 2 ^ (m + 1) + 2 ^ (m + 1) := by rw [Nat.pow_succ]; omega
    have p1 := pw m
    have self : ∀ {u : Kd}, (∀ g, g ∈ u.gapsL → getT t g = none) → u.fill t = u := fun {u} h => by
      rw [fill_app]
      refine app_id fun g hg => ?_
      unfold fnT
      rw [h g hg]; rfl
    have xo : ∀ g, g ∈ x.gapsL → getT t g = none := by
      rcases O.mem e with ⟨rfl, rfl⟩ | ⟨rfl, rfl⟩
      · exact ok.filled a
      · exact ok.filled b
    have yo : ∀ g, g ∈ y.gapsL → getT t g = none := by
      rcases O.mem e with ⟨rfl, rfl⟩ | ⟨rfl, rfl⟩
      · exact ok.filled b
      · exact ok.filled a
    by_cases hxy : x = y
    · subst hxy; exact ⟨_, .eq s (pw _) e, fun t' z => by cases z; exact ⟨ok, .inl rfl, fun _ _ h => h⟩⟩
    by_cases hx : x.tag = 0
    · obtain ⟨j, rfl⟩ := tag_any hx
      by_cases hj : j ∈ y.gapsL
      · exact ⟨_, .occ s (pw _) e hxy hj, fun t' z => nomatch z⟩
      · have f := s.free O e
        have jV : j ∈ V := by
          rcases O.mem e with ⟨e1, _⟩ | ⟨e1, _⟩
          · exact s.ga j (by rw [← e1]; exact List.mem_singleton.mpr rfl)
          · exact s.gb j (by rw [← e1]; exact List.mem_singleton.mpr rfl)
        exact ⟨_, .bind s (pw _) e hxy hj, fun t' z => by cases z; exact ⟨ok.grow f.1 hj f.2, .inr (unb_grow f.1 jV), fun c d h => K.bd t a b j y c d ok i e hxy hj h⟩⟩
    · by_cases ht : x.tag = y.tag
      · have two : ∀ u1 u2 v1 v2, (x = .fn u1 u2 ∧ y = .fn v1 v2 ∨ x = .pair u1 u2 ∧ y = .pair v1 v2) → u1.dep + 1 ≤ δ ∧ u2.dep + 1 ≤ δ ∧ v1.dep + 1 ≤ δ ∧ v2.dep + 1 ≤ δ ∧ u1.fill t = u1 ∧ u2.fill t = u2 ∧ v1.fill t = v1 ∧ v2.fill t = v2 → ∃ r, Un o E V (m + 1 + 1) (2 ^ (m + 1 + 1) - 1) t a b r ∧ ∀ t', r = some t' → TOk t' ∧ (t' = t ∨ unb V t' < unb V t) ∧ ∀ c d, I t c d → I t' c d := by
          rintro u1 u2 v1 v2 c ⟨q1, q2, q3, q4, f1, f2, f3, f4⟩
          obtain ⟨i1, i2⟩ := K.d2 t a b x y u1 u2 v1 v2 ok i e c
          obtain ⟨r2, un2, h2⟩ := ih t u2 v2 (δ - 1) ok i2 (by rw [f2]; omega) (by rw [f4]; omega) (by omega)
          cases r2 with
          | none => exact ⟨_, .d2n s (by omega) e c hxy un2, fun t' z => nomatch z⟩
          | some t1 =>
            obtain ⟨ok1, lt1, k1⟩ := h2 t1 rfl
            have w1 : (2 ^ (m + 1) - 1) + (2 ^ (m + 1) - 1) + 1 ≤ 2 ^ (m + 1 + 1) - 1 := by omega
            rcases lt1 with rfl | lt1
            · obtain ⟨r1, un1, h1⟩ := ih t1 u1 v1 (δ - 1) ok i1 (by rw [f1]; omega) (by rw [f3]; omega) (by omega)
              exact ⟨r1, .d2 s w1 e c hxy un2 un1, h1⟩
            · have s1 := K.sz t1 u1 v1 ok1 (k1 _ _ i1)
              have le : (unb V t1 + 1) * (E + 1) ≤ unb V t * (E + 1) := Nat.mul_le_mul_right _ lt1
              rw [Nat.succ_mul] at le
              obtain ⟨r1, un1, h1⟩ := ih t1 u1 v1 E ok1 (k1 _ _ i1) s1.fa s1.fb (by omega)
              refine ⟨r1, .d2 s w1 e c hxy un2 un1, fun t' z => ?_⟩
              obtain ⟨g1, g2, g3⟩ := h1 t' z
              refine ⟨g1, .inr ?_, fun c d h => g3 c d (k1 c d h)⟩
              rcases g2 with rfl | g2
              · exact lt1
              · omega
        cases x with
        | any j => exact (hx rfl).elim
        | num => cases y <;> first | exact (hxy rfl).elim | exact nomatch ht
        | tru => cases y <;> first | exact (hxy rfl).elim | exact nomatch ht
        | list u =>
          cases y with
          | list v =>
            have i1 := K.d1 t a b u v ok i e
            have f1 := self (u := u) fun g hg => xo g (mem1.mpr hg)
            have f2 := self (u := v) fun g hg => yo g (mem1.mpr hg)
            have q1 : u.dep + 1 ≤ δ := dd.1
            have q2 : v.dep + 1 ≤ δ := dd.2
            obtain ⟨r1, un1, h1⟩ := ih t u v (δ - 1) ok i1 (by rw [f1]; omega) (by rw [f2]; omega) (by omega)
            exact ⟨r1, .d1 s (by omega) e (fun z => hxy (by rw [z])) un1, h1⟩
          | _ => exact nomatch ht
        | fn u1 u2 =>
          cases y with
          | fn v1 v2 =>
            have q1 : max u1.dep u2.dep + 1 ≤ δ := dd.1
            have q2 : max v1.dep v2.dep + 1 ≤ δ := dd.2
            exact two u1 u2 v1 v2 (.inl ⟨rfl, rfl⟩) ⟨by omega, by omega, by omega, by omega, self fun g hg => xo g (mem2.mpr (.inl hg)), self fun g hg => xo g (mem2.mpr (.inr hg)), self fun g hg => yo g (mem2.mpr (.inl hg)), self fun g hg => yo g (mem2.mpr (.inr hg))⟩
          | _ => exact nomatch ht
        | pair u1 u2 =>
          cases y with
          | pair v1 v2 =>
            have q1 : max u1.dep u2.dep + 1 ≤ δ := dd.1
            have q2 : max v1.dep v2.dep + 1 ≤ δ := dd.2
            exact two u1 u2 v1 v2 (.inr ⟨rfl, rfl⟩) ⟨by omega, by omega, by omega, by omega, self fun g hg => xo g (mem2.mpr (.inl hg)), self fun g hg => xo g (mem2.mpr (.inr hg)), self fun g hg => yo g (mem2.mpr (.inl hg)), self fun g hg => yo g (mem2.mpr (.inr hg))⟩
          | _ => exact nomatch ht
      · exact ⟨_, .clash s (pw _) e hx ht, fun t' z => nomatch z⟩
end
end KS

set_option Elab.async false
set_option linter.all false
set_option maxRecDepth 100000
/-! GapsN: the gaps' lists, whatever the kind's size (turned from Gaps). -/
namespace KS
open PySem L2
local macro_rules | `(tactic| walk_at "st") => `(tactic| first | (refine go_o rfl ?_) | (refine go_tt rfl ?_) | (refine go_ff rfl ?_))
theorem sub_length : ∀ {l1 l2 : List Int}, l1.Nodup → (∀ x, x ∈ l1 → x ∈ l2) → l1.length ≤ l2.length
  | [], _, _, _ => Nat.zero_le _
  | a :: l1, l2, nd, h => by
    rw [List.nodup_cons] at nd
    have ha : a ∈ l2 := h a (List.mem_cons_self ..)
    have := sub_length (l1 := l1) (l2 := l2.erase a) nd.2 fun x hx => by
      refine (List.mem_erase_of_ne ?_).mpr (h x (List.mem_cons_of_mem _ hx))
      rintro rfl
      exact nd.1 hx
    rw [List.length_erase_of_mem ha] at this
    have : 0 < l2.length := List.length_pos_of_mem ha
    rw [List.length_cons]
    omega
theorem extL_nil (l : List Int) : extL [] l = l := by
  unfold extL
  rw [List.nil_append]
  exact List.filter_eq_self.mpr fun a _ => by simp
section
variable {w : Nat}
theorem lgapsN : ∀ (k : Kd) (n : Nat), k.dep < n → k.gapsL.length ≤ 500000 → sem PD w n 7 [.dat k.enc] = .ok (.lst (intsD k.gapsL)) [] := by
  intro k
  induction k with
  | num =>
    intro n h _
    obtain ⟨n, rfl⟩ : ∃ m, n = m + 1 := ⟨n - 1, by omega⟩
    refine sem_go (d := d7) rfl ?_
    repeat walk_at "st"
    exact go_ok rfl
  | tru =>
    intro n h _
    obtain ⟨n, rfl⟩ : ∃ m, n = m + 1 := ⟨n - 1, by omega⟩
    refine sem_go (d := d7) rfl ?_
    repeat walk_at "st"
    exact go_ok rfl
  | any i =>
    intro n h _
    obtain ⟨n, rfl⟩ : ∃ m, n = m + 1 := ⟨n - 1, by omega⟩
    refine sem_go (d := d7) rfl ?_
    repeat walk_at "st"
    exact go_ok rfl
  | list a iha =>
    intro n h hl
    obtain ⟨n, rfl⟩ : ∃ m, n = m + 1 := ⟨n - 1, by omega⟩
    have g1 : a.gapsL.length ≤ 500000 := by rw [← extL_nil a.gapsL]; exact hl
    have h1 := iha n (by simp [Kd.dep] at h; omega) g1
    refine sem_go (d := d7) rfl ?_
    repeat walk_at "st"
    refine go_call h1 ?_
    repeat walk_at "st"
    refine go_un rfl ?_
    refine go_un (ints_lim (by omega)) ?_
    refine keep_go (f := []) (.inl rfl) fun x => ?_
    repeat walk_at "st"
    refine go_o (op_add_ints [] _ (filter_lim (by simp only [List.length_nil]; omega))) ?_
    repeat walk_at "st"
    exact go_ok rfl
  | fn a b iha ihb =>
    intro n h hl
    obtain ⟨n, rfl⟩ : ∃ m, n = m + 1 := ⟨n - 1, by omega⟩
    have g1 : a.gapsL.length ≤ 500000 := Nat.le_trans (sub_length (gapsL_nodup a) fun i hi => mem_extL.mpr (.inl (mem_extL.mpr (.inr hi)))) hl
    have g2 : b.gapsL.length ≤ 500000 := Nat.le_trans (sub_length (gapsL_nodup b) fun i hi => mem_extL.mpr (.inr hi)) hl
    have g3 := extL_length [] a.gapsL
    have h1 := iha n (by simp [Kd.dep] at h; omega) g1
    have h2 := ihb n (by simp [Kd.dep] at h; omega) g2
    refine sem_go (d := d7) rfl ?_
    repeat walk_at "st"
    refine go_call h1 ?_
    repeat walk_at "st"
    refine go_un rfl ?_
    refine go_un (ints_lim (by omega)) ?_
    refine keep_go (f := []) (.inl rfl) fun x => ?_
    repeat walk_at "st"
    refine go_o (op_add_ints [] _ (filter_lim (by simp only [List.length_nil]; omega))) ?_
    repeat walk_at "st"
    refine go_call h2 ?_
    repeat walk_at "st"
    refine go_un rfl ?_
    refine go_un (ints_lim (by omega)) ?_
    refine keep_go (f := extL [] a.gapsL) (.inl rfl) fun x => ?_
    repeat walk_at "st"
    refine go_o (op_add_ints (extL [] a.gapsL) _ (filter_lim (by simp only [List.length_nil] at g3; omega))) ?_
    repeat walk_at "st"
    exact go_ok rfl
  | pair a b iha ihb =>
    intro n h hl
    obtain ⟨n, rfl⟩ : ∃ m, n = m + 1 := ⟨n - 1, by omega⟩
    have g1 : a.gapsL.length ≤ 500000 := Nat.le_trans (sub_length (gapsL_nodup a) fun i hi => mem_extL.mpr (.inl (mem_extL.mpr (.inr hi)))) hl
    have g2 : b.gapsL.length ≤ 500000 := Nat.le_trans (sub_length (gapsL_nodup b) fun i hi => mem_extL.mpr (.inr hi)) hl
    have g3 := extL_length [] a.gapsL
    have h1 := iha n (by simp [Kd.dep] at h; omega) g1
    have h2 := ihb n (by simp [Kd.dep] at h; omega) g2
    refine sem_go (d := d7) rfl ?_
    repeat walk_at "st"
    refine go_call h1 ?_
    repeat walk_at "st"
    refine go_un rfl ?_
    refine go_un (ints_lim (by omega)) ?_
    refine keep_go (f := []) (.inl rfl) fun x => ?_
    repeat walk_at "st"
    refine go_o (op_add_ints [] _ (filter_lim (by simp only [List.length_nil]; omega))) ?_
    repeat walk_at "st"
    refine go_call h2 ?_
    repeat walk_at "st"
    refine go_un rfl ?_
    refine go_un (ints_lim (by omega)) ?_
    refine keep_go (f := extL [] a.gapsL) (.inl rfl) fun x => ?_
    repeat walk_at "st"
    refine go_o (op_add_ints (extL [] a.gapsL) _ (filter_lim (by simp only [List.length_nil] at g3; omega))) ?_
    repeat walk_at "st"
    exact go_ok rfl
theorem pgapsN : ∀ (k : Kd) (n : Nat), k.dep < n → k.gapsL.length ≤ 500000 → sem PD w n 10 [.dat k.enc] = .ok (.lst (intsD k.gapsL)) [] := by
  intro k
  induction k with
  | num =>
    intro n h _
    obtain ⟨n, rfl⟩ : ∃ m, n = m + 1 := ⟨n - 1, by omega⟩
    refine sem_go (d := d10) rfl ?_
    repeat walk_at "st"
    exact go_ok rfl
  | tru =>
    intro n h _
    obtain ⟨n, rfl⟩ : ∃ m, n = m + 1 := ⟨n - 1, by omega⟩
    refine sem_go (d := d10) rfl ?_
    repeat walk_at "st"
    exact go_ok rfl
  | any i =>
    intro n h _
    obtain ⟨n, rfl⟩ : ∃ m, n = m + 1 := ⟨n - 1, by omega⟩
    refine sem_go (d := d10) rfl ?_
    repeat walk_at "st"
    exact go_ok rfl
  | list a iha =>
    intro n h hl
    obtain ⟨n, rfl⟩ : ∃ m, n = m + 1 := ⟨n - 1, by omega⟩
    have g1 : a.gapsL.length ≤ 500000 := by rw [← extL_nil a.gapsL]; exact hl
    have h1 := iha n (by simp [Kd.dep] at h; omega) g1
    refine sem_go (d := d10) rfl ?_
    repeat walk_at "st"
    refine go_call h1 ?_
    repeat walk_at "st"
    refine go_un rfl ?_
    refine go_un (ints_lim (by omega)) ?_
    refine keep_go (f := []) (.inr rfl) fun x => ?_
    repeat walk_at "st"
    refine go_o (ext_ints [] _ (filter_lim (by simp only [List.length_nil]; omega))) ?_
    repeat walk_at "st"
    exact go_ok rfl
  | fn a b iha ihb =>
    intro n h hl
    obtain ⟨n, rfl⟩ : ∃ m, n = m + 1 := ⟨n - 1, by omega⟩
    have g1 : a.gapsL.length ≤ 500000 := Nat.le_trans (sub_length (gapsL_nodup a) fun i hi => mem_extL.mpr (.inl (mem_extL.mpr (.inr hi)))) hl
    have g2 : b.gapsL.length ≤ 500000 := Nat.le_trans (sub_length (gapsL_nodup b) fun i hi => mem_extL.mpr (.inr hi)) hl
    have g3 := extL_length [] a.gapsL
    have h1 := iha n (by simp [Kd.dep] at h; omega) g1
    have h2 := ihb n (by simp [Kd.dep] at h; omega) g2
    refine sem_go (d := d10) rfl ?_
    repeat walk_at "st"
    refine go_call h1 ?_
    repeat walk_at "st"
    refine go_un rfl ?_
    refine go_un (ints_lim (by omega)) ?_
    refine keep_go (f := []) (.inr rfl) fun x => ?_
    repeat walk_at "st"
    refine go_o (ext_ints [] _ (filter_lim (by simp only [List.length_nil]; omega))) ?_
    repeat walk_at "st"
    refine go_call h2 ?_
    repeat walk_at "st"
    refine go_un rfl ?_
    refine go_un (ints_lim (by omega)) ?_
    refine keep_go (f := extL [] a.gapsL) (.inr rfl) fun x => ?_
    repeat walk_at "st"
    refine go_o (ext_ints (extL [] a.gapsL) _ (filter_lim (by simp only [List.length_nil] at g3; omega))) ?_
    repeat walk_at "st"
    exact go_ok rfl
  | pair a b iha ihb =>
    intro n h hl
    obtain ⟨n, rfl⟩ : ∃ m, n = m + 1 := ⟨n - 1, by omega⟩
    have g1 : a.gapsL.length ≤ 500000 := Nat.le_trans (sub_length (gapsL_nodup a) fun i hi => mem_extL.mpr (.inl (mem_extL.mpr (.inr hi)))) hl
    have g2 : b.gapsL.length ≤ 500000 := Nat.le_trans (sub_length (gapsL_nodup b) fun i hi => mem_extL.mpr (.inr hi)) hl
    have g3 := extL_length [] a.gapsL
    have h1 := iha n (by simp [Kd.dep] at h; omega) g1
    have h2 := ihb n (by simp [Kd.dep] at h; omega) g2
    refine sem_go (d := d10) rfl ?_
    repeat walk_at "st"
    refine go_call h1 ?_
    repeat walk_at "st"
    refine go_un rfl ?_
    refine go_un (ints_lim (by omega)) ?_
    refine keep_go (f := []) (.inr rfl) fun x => ?_
    repeat walk_at "st"
    refine go_o (ext_ints [] _ (filter_lim (by simp only [List.length_nil]; omega))) ?_
    repeat walk_at "st"
    refine go_call h2 ?_
    repeat walk_at "st"
    refine go_un rfl ?_
    refine go_un (ints_lim (by omega)) ?_
    refine keep_go (f := extL [] a.gapsL) (.inr rfl) fun x => ?_
    repeat walk_at "st"
    refine go_o (ext_ints (extL [] a.gapsL) _ (filter_lim (by simp only [List.length_nil] at g3; omega))) ?_
    repeat walk_at "st"
    exact go_ok rfl
end
end KS

set_option Elab.async false
set_option linter.all false
set_option maxRecDepth 100000
/-! Join: the program's grown and joined. -/
namespace KS
open PySem L2
local macro_rules | `(tactic| walk_at "st") => `(tactic| first | (refine go_o rfl ?_) | (refine go_tt rfl ?_) | (refine go_ff rfl ?_))
theorem op_in_ints (i : Int) (l : List Int) : opD .isin (.int i) (.lst (intsD l)) = some (.bl (decide (i ∈ l))) := by
  show (inD (.int i) (intsD l)).map D.bl = _
  have : (D.scalar (.int i) && (intsD l).all D.scalar) = true := by
    rw [Bool.and_eq_true]
    refine ⟨rfl, List.all_eq_true.mpr fun d hd => ?_⟩
    obtain ⟨j, _, rfl⟩ := List.mem_map.mp hd
    rfl
  unfold inD
  rw [if_pos this, any_ints]
  rfl
theorem setT_new {t : Tl} {k : Int} {v : Kd} (h : k ∉ t.map (·.1)) : setT t k v = t ++ [(k, v)] := by
  unfold setT
  rw [if_neg]
  intro z
  obtain ⟨p, hp, e⟩ := List.any_eq_true.mp z
  exact h (List.mem_map.mpr ⟨p, hp, by simpa using e⟩)
theorem keys_tlD (t : Tl) : (tlD t).map (fun kv => keyD kv.1) = t.map fun p => D.int p.1 := by
  unfold tlD
  rw [List.map_map]
  rfl
def fillsT (i : Int) (y : Kd) (t : Tl) : Tl := t.map fun p => (p.1, p.2.fill [(i, y)])
theorem fillsT_keys (i : Int) (y : Kd) (t : Tl) : (fillsT i y t).map (·.1) = t.map (·.1) := by
  unfold fillsT
  rw [List.map_map]
  rfl
theorem grow_fillsT (i : Int) (y : Kd) (t : Tl) : grow t i y = fillsT i y t ++ [(i, y)] := rfl
def lastK : Tl → SV → SV
  | [], x => x
  | p :: l, _ => lastK l (.dat (.int p.1))
section
variable {w : Nat}
theorem put_new {t : Tl} {k : Int} {v : Kd} (h : k ∉ t.map (·.1)) (hl : t.length < 1000000) : setSD (some (.od (tlD t))) (.int k) v.enc = some (.od (tlD (t ++ [(k, v)]))) := by
  show (if (tlD t).length < lim then some (SV.od (setK (tlD t) (.inl k) v.enc)) else none) = _
  rw [tlD_length, if_pos (by show _ < 16777216; omega), setK_tlD, setT_new h]
theorem grown_loop {G : Gm} {t : Tl} {i : Int} {y : Kd} {rt : D → KS.Env → KS.T} (nd : TlNd t) (hl : t.length < 1000000) (hG : ∀ p, p ∈ t → G 0 [.dat p.2.enc, .dat (.dic (tlD [(i, y)]))] = .ok (p.2.fill [(i, y)]).enc []) :
    ∀ (l2 l1 : Tl) (x : SV), t = l1 ++ l2 →
    Goes G (forK (fun d ρ2 n b => KS.T.opt (bindT [4] d ρ2) fun ρ3 => exsK w (.cons (.putD (3, none) (.var 4) (.call 0 (.cons (.dx (.var 0) (.var 4)) (.cons (.dk1 (.var 1) (.var 2)) .nil)))) .nil) ρ3 ⟨n, rt, b, n⟩) (l2.map fun p => D.int p.1)
      [.dat (.dic (tlD t)), .dat (.int i), .dat y.enc, .od (tlD (fillsT i y l1)), x] (fun ρ4 => .ok .non ρ4)) (.ok .non [.dat (.dic (tlD t)), .dat (.int i), .dat y.enc, .od (tlD (fillsT i y t)), lastK l2 x]) := by
  intro l2
  induction l2 with
  | nil => intro l1 x e; rw [List.append_nil] at e; subst e; exact go_ok rfl
  | cons p l2 ih =>
    intro l1 x e
    have hm : p ∈ t := by rw [e]; exact List.mem_append.mpr (.inr (List.mem_cons_self ..))
    have h1 : getK (tlD t) (.inl p.1) = some p.2.enc := by rw [getK_tlD, getT_self nd p hm]; rfl
    have hn : p.1 ∉ l1.map (·.1) := by
      intro z
      unfold TlNd at nd
      rw [e, List.map_append, List.nodup_append] at nd
      exact nd.2.2 _ z _ (List.mem_map.mpr ⟨p, List.mem_cons_self .., rfl⟩) rfl
    have hs : setSD (some (.od (tlD (fillsT i y l1)))) (.int p.1) (p.2.fill [(i, y)]).enc = some (.od (tlD (fillsT i y (l1 ++ [p])))) := by
      have := put_new (t := fillsT i y l1) (k := p.1) (v := p.2.fill [(i, y)]) (by rw [fillsT_keys]; exact hn) (by unfold fillsT; rw [List.length_map]; rw [e, List.length_append] at hl; omega)
      rw [this]
      unfold fillsT
      rw [List.map_append]
      rfl
    have hd : ixDD (.dic (tlD t)) (.int p.1) = some p.2.enc := h1
    rw [List.map_cons]
    repeat first | (refine go_o (a := [_, _, _, _, _]) rfl ?_) | (refine go_call (hG p hm) ?_) | (refine go_o hs ?_) | (refine go_o hd ?_) | walk_at "st"
    exact ih (l1 ++ [p]) (.dat (.int p.1)) (by rw [e, List.append_assoc]; rfl)
theorem grown_no {t : Tl} {i : Int} {y : Kd} {n : Nat} (hd : y.dep < n) (hl : y.gapsL.length ≤ 500000) (hi : i ∈ y.gapsL) : sem PD w (n + 1) 20 [.dat (.dic (tlD t)), .dat (.int i), .dat y.enc] = .exc 1 [] := by
  have g1 := pgapsN (w := w) y n hd hl
  refine sem_go (d := d20) rfl ?_
  repeat first | (refine go_o (a := [_, _, _, _, _]) rfl ?_) | (refine go_call g1 ?_) | (refine go_o (op_in_ints i y.gapsL) ?_) | walk_at "st"
  refine go_tt (decide_eq_true hi) ?_
  exact go_exc rfl
theorem grown_ok {t : Tl} {i : Int} {y : Kd} {n : Nat} (nd : TlNd t) (ht : t.length < 1000000 - 1) (hd : y.dep < n) (hl : y.gapsL.length ≤ 500000) (hi : i ∉ y.gapsL) (hn : getT t i = none) (hv : ∀ p, p ∈ t → p.2.dep < n) :
    sem PD w (n + 1) 20 [.dat (.dic (tlD t)), .dat (.int i), .dat y.enc] = .ok (.dic (tlD (grow t i y))) [] := by
  have g1 := pgapsN (w := w) y n hd hl
  have hs : setSD (some (.od (tlD (fillsT i y t)))) (.int i) y.enc = some (.od (tlD (grow t i y))) := by
    rw [put_new (by rw [fillsT_keys]; exact getT_none.mp hn) (by unfold fillsT; rw [List.length_map]; omega)]
    rfl
  have hk : (rd false [.dat (.dic (tlD t)), .dat (.int i), .dat y.enc, .od [], .dead] (0, none)).bind keysD = some (t.map fun p => D.int p.1) := congrArg some (keys_tlD t)
  refine sem_go (d := d20) rfl ?_
  repeat first | (refine go_o (a := [_, _, _, _, _]) rfl ?_) | (refine go_call g1 ?_) | (refine go_o (op_in_ints i y.gapsL) ?_) | (refine go_ff (decide_eq_false hi) ?_) | (refine go_o hk ?_) | walk_at "st"
  refine go_sub (grown_loop nd (by omega) (fun p hp => filled [(i, y)] p.2 n (hv p hp)) t [] .dead rfl) ?_
  repeat first | (refine go_o (a := [_, _, _, _, _]) rfl ?_) | (refine go_o hs ?_) | walk_at "st"
  exact go_ok rfl
end
end KS

set_option Elab.async false
set_option linter.all false
set_option maxRecDepth 100000
/-! JoinW: the program's joined comes to what Un tells. -/
namespace KS
open PySem L2
local macro_rules | `(tactic| walk_at "st") => `(tactic| first | (refine go_o rfl ?_) | (refine go_tt rfl ?_) | (refine go_ff rfl ?_))
theorem Sz.len {E V t a b} (s : Sz E V t a b) : t.length ≤ V.length := by
  have := sub_length s.ok.nd (l2 := V) fun x hx => by
    obtain ⟨p, hp, rfl⟩ := List.mem_map.mp hx
    exact (s.ts p hp).1
  rwa [List.length_map] at this
def pairD (a b : Kd) : D := .tup [a.enc, b.enc]
theorem ix_tag (k : Kd) : ixND k.enc (.int 0) = some (.str k.tag) := by cases k <;> rfl
theorem pop_app (xs : List D) (d : D) : popD (some (.ol (xs ++ [d]))) = some (d, .ol xs) := by
  show ((xs ++ [d]).getLast?).map (fun e => (e, SV.ol (xs ++ [d]).dropLast)) = _
  rw [List.getLast?_concat, List.dropLast_concat]
  rfl
theorem ext_one {xs : List D} {a : D} (h : xs.length + 2 ≤ lim) : extS (some (.ol xs)) (.lst [a]) = some (.ol (xs ++ [a])) := if_pos (by show xs.length + 1 ≤ _; omega)
theorem ext_two {xs : List D} {a b : D} (h : xs.length + 2 ≤ lim) : extS (some (.ol xs)) (.lst [a, b]) = some (.ol (xs ++ [a] ++ [b])) := by
  show (if xs.length + 2 ≤ lim then some (SV.ol (xs ++ [a, b])) else none) = _
  rw [if_pos h, List.append_assoc]
  rfl
theorem eq_str (x y : Nat) : opD .eq (.str x) (.str y) = some (.bl (x == y)) := rfl
theorem ne_str (x y : Nat) : opD .ne (.str x) (.str y) = some (.bl (!(x == y))) := rfl
abbrev jTurn : Ss := .cons (.if_ (.bin .eq (.var 5) (.var 6)) (.cons .cont .nil) .nil) (.cons (.if_ (.bin .eq (.ix (.var 5) (.int 0)) (.glob 0)) (.cons (.asg 2 (.call 20 (.cons (.var 2) (.cons (.ix (.var 5) (.int 1)) (.cons (.var 6) .nil))))) .nil) (.cons (.if_ (.bin .ne (.ix (.var 5) (.int 0)) (.ix (.var 6) (.int 0))) (.cons (.raise_ 1 .nil) .nil) (.cons (.extd (3, none) (.comp (.tup (.cons (.ix (.var 5) (.var 7)) (.cons (.ix (.var 6) (.var 7)) .nil))) [7] (.rng2 (.int 1) (.bif .len (.cons (.var 5) .nil))) (.bl true))) .nil)) .nil)) .nil)
abbrev jBody : Ss := .cons (.asg 4 (.pop (3, none))) (.cons (.asg 5 (.call 0 (.cons (.ix (.var 4) (.int 0)) (.cons (.var 2) .nil)))) (.cons (.asg 6 (.call 0 (.cons (.ix (.var 4) (.int 1)) (.cons (.var 2) .nil)))) (.cons (.if_ (.bin .eq (.ix (.var 6) (.int 0)) (.glob 0)) (.cons (.asgT [5, 6] (.tup (.cons (.var 6) (.cons (.var 5) .nil)))) .nil) .nil) jTurn)))
section
variable {w : Nat} {G : Gm} {R : RF} {K : Ks} {one other x4 x5 x6 : SV} {t : Tl} {a b x y : Kd} {rest : List D}
theorem turn1 (ha : G 0 [.dat a.enc, .dat (.dic (tlD t))] = .ok (a.fill t).enc []) (hb : G 0 [.dat b.enc, .dat (.dic (tlD t))] = .ok (b.fill t).enc []) (e : ori (a.fill t) (b.fill t) = (x, y))
    (q : Goes G (exsK w jTurn [one, other, .dat (.dic (tlD t)), .ol rest, .dat (pairD a b), .dat x.enc, .dat y.enc, .dead] K) R) :
    Goes G (exsK w jBody [one, other, .dat (.dic (tlD t)), .ol (rest ++ [pairD a b]), x4, x5, x6, .dead] K) R := by
  refine go_o (a := (pairD a b, .ol rest)) (pop_app rest _) ?_
  repeat first | (refine go_o (a := [_, _, _, _, _, _, _, _]) rfl ?_) | (refine go_call ha ?_) | (refine go_call hb ?_) | walk_at "st"
  refine go_o (ix_tag _) ?_
  repeat walk_at "st"
  rcases ori_cases (a.fill t) (b.fill t) with ⟨e1, c⟩ | ⟨e1, c⟩
  · rw [e1] at e
    cases e
    refine go_ff (show ((b.fill t).tag == 0) = false from beq_eq_false_iff_ne.mpr c) ?_
    exact q
  · rw [e1] at e
    cases e
    refine go_tt (show ((b.fill t).tag == 0) = true from beq_iff_eq.mpr c) ?_
    refine go_o rfl ?_
    refine go_o rfl ?_
    refine go_o rfl ?_
    refine go_o (a := [_, _, _, _, _, _, _, _]) rfl ?_
    exact q
theorem turn_eq (hd : x.dep ≤ 180) (q : Goes G (K.ct [one, other, .dat (.dic (tlD t)), .ol rest, x4, .dat x.enc, .dat x.enc, .dead]) R) :
    Goes G (exsK w jTurn [one, other, .dat (.dic (tlD t)), .ol rest, x4, .dat x.enc, .dat x.enc, .dead] K) R := by
  repeat walk_at "st"
  refine go_o (op_eq_enc x x (by omega)) ?_
  refine go_o rfl ?_
  refine go_tt (decide_eq_true rfl) ?_
  exact q
theorem turn_ne (hd : x.dep ≤ 180) (n : x ≠ y) (q : Goes G (exsK w (.cons (.if_ (.bin .eq (.ix (.var 5) (.int 0)) (.glob 0)) (.cons (.asg 2 (.call 20 (.cons (.var 2) (.cons (.ix (.var 5) (.int 1)) (.cons (.var 6) .nil))))) .nil) (.cons (.if_ (.bin .ne (.ix (.var 5) (.int 0)) (.ix (.var 6) (.int 0))) (.cons (.raise_ 1 .nil) .nil) (.cons (.extd (3, none) (.comp (.tup (.cons (.ix (.var 5) (.var 7)) (.cons (.ix (.var 6) (.var 7)) .nil))) [7] (.rng2 (.int 1) (.bif .len (.cons (.var 5) .nil))) (.bl true))) .nil)) .nil)) .nil) [one, other, .dat (.dic (tlD t)), .ol rest, x4, .dat x.enc, .dat y.enc, .dead] K) R) :
    Goes G (exsK w jTurn [one, other, .dat (.dic (tlD t)), .ol rest, x4, .dat x.enc, .dat y.enc, .dead] K) R := by
  repeat walk_at "st"
  refine go_o (op_eq_enc x y (by omega)) ?_
  refine go_o rfl ?_
  refine go_ff (decide_eq_false n) ?_
  exact q
theorem turn_bind {i : Int} {r : RF} (n : Kd.any i ≠ y) (hc : G 20 [.dat (.dic (tlD t)), .dat (.int i), .dat y.enc] = r) (q : match r with
      | .ok d us => us = [] ∧ Goes G (K.nx [one, other, .dat d, .ol rest, x4, .dat (Kd.any i).enc, .dat y.enc, .dead]) R
      | .exc c pl => R = .exc c pl
      | .stuck => False) :
    Goes G (exsK w jTurn [one, other, .dat (.dic (tlD t)), .ol rest, x4, .dat (Kd.any i).enc, .dat y.enc, .dead] K) R := by
  refine turn_ne (by show 0 ≤ _; omega) n ?_
  repeat walk_at "st"
  refine go_call hc ?_
  cases r with
  | ok d us =>
    obtain ⟨rfl, q⟩ := q
    repeat first | (refine go_o (a := [_, _, _, _, _, _, _, _]) rfl ?_) | walk_at "st"
    exact q
  | exc c pl => rw [q]; exact go_exc rfl
  | stuck => exact q.elim
theorem turn_clash (hd : x.dep ≤ 180) (n : x.tag ≠ 0) (c : x.tag ≠ y.tag) (hR : R = .exc 1 []) :
    Goes G (exsK w jTurn [one, other, .dat (.dic (tlD t)), .ol rest, x4, .dat x.enc, .dat y.enc, .dead] K) R := by
  refine turn_ne hd (fun e => c (by rw [e])) ?_
  repeat walk_at "st"
  refine go_o (ix_tag x) ?_
  repeat walk_at "st"
  refine go_ff (show (x.tag == 0) = false from beq_eq_false_iff_ne.mpr n) ?_
  repeat walk_at "st"
  refine go_o (ix_tag x) ?_
  repeat walk_at "st"
  refine go_o (ix_tag y) ?_
  repeat walk_at "st"
  refine go_tt (show (!(x.tag == y.tag)) = true by rw [beq_eq_false_iff_ne.mpr c]; rfl) ?_
  rw [hR]
  exact go_exc rfl
theorem turn_list {u v : Kd} (hd : u.dep ≤ 100) (n : u ≠ v) (hl : rest.length + 2 ≤ lim) (q : Goes G (K.nx [one, other, .dat (.dic (tlD t)), .ol (rest ++ [pairD u v]), x4, .dat (Kd.list u).enc, .dat (Kd.list v).enc, .dead]) R) :
    Goes G (exsK w jTurn [one, other, .dat (.dic (tlD t)), .ol rest, x4, .dat (Kd.list u).enc, .dat (Kd.list v).enc, .dead] K) R := by
  refine turn_ne (by show u.dep + 1 ≤ _; omega) (fun e => n (by injection e)) ?_
  repeat first | (refine go_o (a := [_, _, _, _, _, _, _, _]) rfl ?_) | (refine go_o (ext_one hl) ?_) | walk_at "st" | (refine go_un rfl ?_)
  exact q
theorem turn_two {u1 u2 v1 v2 : Kd} (c : x = .fn u1 u2 ∧ y = .fn v1 v2 ∨ x = .pair u1 u2 ∧ y = .pair v1 v2) (hd : x.dep ≤ 100) (n : x ≠ y) (hl : rest.length + 2 ≤ lim) (q : Goes G (K.nx [one, other, .dat (.dic (tlD t)), .ol (rest ++ [pairD u1 v1] ++ [pairD u2 v2]), x4, .dat x.enc, .dat y.enc, .dead]) R) :
    Goes G (exsK w jTurn [one, other, .dat (.dic (tlD t)), .ol rest, x4, .dat x.enc, .dat y.enc, .dead] K) R := by
  refine turn_ne (by omega) n ?_
  rcases c with ⟨rfl, rfl⟩ | ⟨rfl, rfl⟩
  · repeat first | (refine go_o (a := [_, _, _, _, _, _, _, _]) rfl ?_) | (refine go_o (ext_two hl) ?_) | walk_at "st" | (refine go_un rfl ?_)
    exact q
  · repeat first | (refine go_o (a := [_, _, _, _, _, _, _, _]) rfl ?_) | (refine go_o (ext_two hl) ?_) | walk_at "st" | (refine go_un rfl ?_)
    exact q
end
end KS

set_option Elab.async false
set_option linter.all false
set_option maxRecDepth 100000
/-! JoinX: joined, whole. -/
namespace KS
open PySem L2
local macro_rules | `(tactic| walk_at "st") => `(tactic| first | (refine go_o rfl ?_) | (refine go_tt rfl ?_) | (refine go_ff rfl ?_))
abbrev jCond : KS.Env → (Bool → KS.Env → KS.T) → KS.T := fun ρ1 k => evK true true (.var 3) ρ1 fun d ρ2 => ofK (truth d) ρ2 k
abbrev jStep (w : Nat) (rt : D → KS.Env → KS.T) : KS.Env → (KS.Env → KS.T) → (KS.Env → KS.T) → KS.T := fun ρ1 n b => exsK w jBody ρ1 ⟨n, rt, b, n⟩
theorem truth_app (xs : List D) (d : D) : truth (.lst (xs ++ [d])) = some true := by cases xs <;> rfl
section
variable {w : Nat} {R : RF} {one other : SV}
theorem while_more {G : Gm} {rt k} {W : Nat} {rest : List D} {p : D} {x4 x5 x6 dt : SV} (q : Goes G (exsK w jBody [one, other, dt, .ol (rest ++ [p]), x4, x5, x6, .dead] ⟨fun ρ2 => whileK jCond (jStep w rt) W ρ2 k, rt, k, fun ρ2 => whileK jCond (jStep w rt) W ρ2 k⟩) R) :
    Goes G (whileK jCond (jStep w rt) (W + 1) [one, other, dt, .ol (rest ++ [p]), x4, x5, x6, .dead] k) R := by
  refine go_o (a := .lst (rest ++ [p])) rfl ?_
  refine go_o (truth_app rest p) ?_
  refine go_tt rfl ?_
  exact q
theorem while_end {G : Gm} {rt k} {W : Nat} {x4 x5 x6 dt : SV} (q : Goes G (k [one, other, dt, .ol [], x4, x5, x6, .dead]) R) :
    Goes G (whileK jCond (jStep w rt) (W + 1) [one, other, dt, .ol [], x4, x5, x6, .dead] k) R := by
  refine go_o (a := .lst []) rfl ?_
  refine go_o (a := false) rfl ?_
  refine go_ff rfl ?_
  exact q
theorem ori_dep {E V t a b x y} (s : Sz E V t a b) (e : ori (a.fill t) (b.fill t) = (x, y)) : x.dep ≤ E ∧ y.dep ≤ E := by
  have := s.fa
  have := s.fb
  rcases ori_mem e with ⟨rfl, rfl⟩ | ⟨rfl, rfl⟩ <;> exact ⟨by assumption, by assumption⟩
theorem Sz.gapsN {o : Kd → Kd → Kd × Kd} (O : Ori o) {E V t a b x y} (s : Sz E V t a b) (e : o (a.fill t) (b.fill t) = (x, y)) : y.gapsL.length ≤ V.length := by
  rcases O.mem e with ⟨_, rfl⟩ | ⟨_, rfl⟩
  · exact sub_length (gapsL_nodup _) s.gb
  · exact sub_length (gapsL_nodup _) s.ga
theorem join_loop {E V h wN t a b r} (u : Un ori E V h wN t a b r) (hE : E ≤ 100) (hV : V.length ≤ 100000) (n : Nat) {rt k} : ∀ (rest : List D) (W : Nat) (x4 x5 x6 : SV), rest.length + 2 * h + 10 ≤ lim → wN ≤ W →
    (match r with
      | none => R = .exc 1 []
      | some t' => ∀ (W' : Nat) (x4 x5 x6 : SV), W ≤ W' + wN → Goes (sem PD w (n + E + 2)) (whileK jCond (jStep w rt) W' [one, other, .dat (.dic (tlD t')), .ol rest, x4, x5, x6, .dead] k) R) →
    Goes (sem PD w (n + E + 2)) (whileK jCond (jStep w rt) W [one, other, .dat (.dic (tlD t)), .ol (rest ++ [pairD a b]), x4, x5, x6, .dead] k) R := by
  have hl : ∀ {t a b x y}, Sz E V t a b → ori (a.fill t) (b.fill t) = (x, y) → y.gapsL.length ≤ 500000 := fun {t a b x y} s e => by
    have := s.gapsN oriP e
    omega
  have f0 : ∀ (k : Kd) (t : Tl), k.dep ≤ E → sem PD w (n + E + 2) 0 [.dat k.enc, .dat (.dic (tlD t))] = .ok (k.fill t).enc [] := fun k t h => filled t k _ (by omega)
  induction u with
  | eq s hw e =>
    intro rest W x4 x5 x6 _ hW q
    obtain ⟨W, rfl⟩ : ∃ m, W = m + 1 := ⟨W - 1, by omega⟩
    have d := ori_dep s e
    refine while_more (turn1 (f0 _ _ s.da) (f0 _ _ s.db) e (turn_eq (by omega) ?_))
    exact q W _ _ _ (by omega)
  | occ s hw e m i =>
    intro rest W x4 x5 x6 _ hW q
    obtain ⟨W, rfl⟩ : ∃ m, W = m + 1 := ⟨W - 1, by omega⟩
    have d := ori_dep s e
    refine while_more (turn1 (f0 _ _ s.da) (f0 _ _ s.db) e (turn_bind m (grown_no (n := n + E + 1) (by omega) (hl s e) i) ?_))
    exact q
  | bind s hw e m i =>
    intro rest W x4 x5 x6 _ hW q
    obtain ⟨W, rfl⟩ : ∃ m, W = m + 1 := ⟨W - 1, by omega⟩
    have d := ori_dep s e
    have tl := s.len
    refine while_more (turn1 (f0 _ _ s.da) (f0 _ _ s.db) e (turn_bind m (grown_ok (n := n + E + 1) s.ok.nd (by omega) (by omega) (hl s e) i (s.free oriP e).1 fun p hp => by have := (s.ts p hp).2.1; omega) ?_))
    exact ⟨rfl, q W _ _ _ (by omega)⟩
  | clash s hw e m i =>
    intro rest W x4 x5 x6 _ hW q
    obtain ⟨W, rfl⟩ : ∃ m, W = m + 1 := ⟨W - 1, by omega⟩
    have d := ori_dep s e
    refine while_more (turn1 (f0 _ _ s.da) (f0 _ _ s.db) e (turn_clash (by omega) m i q))
  | @d1 h w0 w1 t a b u v r s hw e m _ ih =>
    intro rest W x4 x5 x6 hr hW q
    obtain ⟨W, rfl⟩ : ∃ m, W = m + 1 := ⟨W - 1, by omega⟩
    have d := ori_dep s e
    have d1 : u.dep + 1 ≤ E := d.1
    refine while_more (turn1 (f0 _ _ s.da) (f0 _ _ s.db) e (turn_list (by omega) m (by omega) ?_))
    refine ih rest W _ _ _ (by omega) (by omega) ?_
    cases r with
    | none => exact q
    | some t' => exact fun W' _ _ _ hW' => q W' _ _ _ (by omega)
  | d2n s hw e c m _ ih =>
    intro rest W x4 x5 x6 hr hW q
    obtain ⟨W, rfl⟩ : ∃ m, W = m + 1 := ⟨W - 1, by omega⟩
    have d := ori_dep s e
    refine while_more (turn1 (f0 _ _ s.da) (f0 _ _ s.db) e (turn_two c (by omega) m (by omega) ?_))
    exact ih _ W _ _ _ (by rw [List.length_append]; show rest.length + 1 + _ + _ ≤ _; omega) (by omega) q
  | @d2 h w0 w1 w2 t t1 a b x y u1 u2 v1 v2 r s hw e c m _ _ i1 i2 =>
    intro rest W x4 x5 x6 hr hW q
    obtain ⟨W, rfl⟩ : ∃ m, W = m + 1 := ⟨W - 1, by omega⟩
    have d := ori_dep s e
    refine while_more (turn1 (f0 _ _ s.da) (f0 _ _ s.db) e (turn_two c (by omega) m (by omega) ?_))
    refine i1 _ W _ _ _ (by rw [List.length_append]; show rest.length + 1 + _ + _ ≤ _; omega) (by omega) ?_
    intro W1 y4 y5 y6 hW1
    refine i2 rest W1 _ _ _ (by omega) (by omega) ?_
    cases r with
    | none => exact q
    | some t' => exact fun W' _ _ _ hW' => q W' _ _ _ (by omega)
/-- how it ends -/
def unR : Option Tl → RF
  | none => .exc 1 []
  | some t => .ok (.dic (tlD t)) []
theorem joined_un {E V h wN a b r} (u : Un ori E V h wN [] a b r) (hE : E ≤ 100) (hV : V.length ≤ 100000) (n : Nat) (hh : h ≤ 1000000) (hw : wN + 1 ≤ w) : sem PD w (n + E + 3) 19 [.dat a.enc, .dat b.enc] = unR r := by
  refine sem_go (d := d19) rfl ?_
  repeat first | (refine go_o (a := [_, _, _, _, _, _, _, _]) rfl ?_) | (refine go_un rfl ?_) | walk_at "st"
  refine join_loop (w := w) (rt := (finK [false, false]).rt) u hE hV n [] w _ _ _ (by show 0 + _ + _ ≤ 16777216; omega) (by omega) ?_
  cases r with
  | none => rfl
  | some t' =>
    intro W' y4 y5 y6 hW'
    obtain ⟨W1, rfl⟩ : ∃ m, W' = m + 1 := ⟨W' - 1, by omega⟩
    refine while_end ?_
    repeat walk_at "st"
    exact go_ok rfl
end
end KS

set_option Elab.async false
set_option linter.all false
set_option maxRecDepth 100000
/-! Plain: a kind with its gaps numbered as they come. -/
namespace KS
open PySem L2
/-- told: each gap's number is its place -/
def tlFrom (n : Nat) : List Int → Tl
  | [] => []
  | g :: l => (g, .any (n : Int)) :: tlFrom (n + 1) l
theorem tlFrom_append : ∀ (l : List Int) (n : Nat) (g : Int), tlFrom n (l ++ [g]) = tlFrom n l ++ [(g, .any ((n + l.length : Nat) : Int))]
  | [], n, g => rfl
  | h :: l, n, g => by
    show (h, Kd.any (n : Int)) :: tlFrom (n + 1) (l ++ [g]) = _
    rw [tlFrom_append l (n + 1) g]
    show _ = (h, Kd.any (n : Int)) :: (tlFrom (n + 1) l ++ _)
    rw [List.length_cons, show n + 1 + l.length = n + (l.length + 1) by omega]
theorem tlFrom_length : ∀ (l : List Int) (n : Nat), (tlFrom n l).length = l.length
  | [], _ => rfl
  | g :: l, n => by show (tlFrom (n + 1) l).length + 1 = _; rw [tlFrom_length l]; rfl
theorem tlFrom_fst : ∀ (l : List Int) (n : Nat), (tlFrom n l).map (·.1) = l
  | [], _ => rfl
  | g :: l, n => by show g :: (tlFrom (n + 1) l).map (·.1) = _; rw [tlFrom_fst l]
theorem setT_tlFrom {l : List Int} {g : Int} (h : g ∉ l) : setT (tlFrom 0 l) g (.any (l.length : Int)) = tlFrom 0 (l ++ [g]) := by
  unfold setT
  rw [if_neg, tlFrom_append, Nat.zero_add]
  intro z
  obtain ⟨p, hp, e⟩ := List.any_eq_true.mp z
  have e : p.1 = g := by simpa using e
  have : p.1 ∈ (tlFrom 0 l).map (·.1) := List.mem_map.mpr ⟨p, hp, rfl⟩
  rw [tlFrom_fst, e] at this
  exact h this
/-- a number's place -/
def plc (l : List Int) (g : Int) : Int := (l.idxOf g : Nat)
theorem getT_tlFrom : ∀ (l : List Int) (n : Nat) (g : Int), g ∈ l → getT (tlFrom n l) g = some (.any ((n + l.idxOf g : Nat) : Int))
  | [], _, _, h => (nomatch h)
  | x :: l, n, g, h => by
    unfold getT tlFrom
    rw [List.find?_cons, List.idxOf_cons]
    by_cases e : x = g
    · subst e
      simp
    · have e2 : (x == g) = false := by simpa using e
      simp only [e, decide_false, e2]
      have hl : g ∈ l := by
        rcases List.mem_cons.mp h with h | h
        · exact (e h.symm).elim
        · exact h
      have := getT_tlFrom l (n + 1) g hl
      unfold getT at this
      rw [this]
      simp only [cond_false]
      rw [show n + 1 + List.idxOf g l = n + (List.idxOf g l + 1) by omega]
section
variable {w : Nat}
local macro_rules | `(tactic| walk_at "st") => `(tactic| first | (refine go_o rfl ?_) | (refine go_tt rfl ?_) | (refine go_ff rfl ?_))
theorem plain_loop {G : Gm} {R : RF} {kd : SV} {k : KS.Env → KS.T} {K : Ks} : ∀ (l done : List Int) (x : SV), (done ++ l).Nodup → (done ++ l).length ≤ 1000000 →
    (∀ x, Goes G (k [kd, .od (tlD (tlFrom 0 (done ++ l))), x]) R) →
    Goes G (forK (fun d ρ2 n b => KS.T.opt (bindT [2] d ρ2) fun ρ3 => exsK w (.cons (.putD (1, none) (.var 2) (.tup (.cons (.glob 0) (.cons (.bif .len (.cons (.var 1) .nil)) .nil)))) .nil) ρ3 ⟨n, K.rt, b, n⟩) (intsD l) [kd, .od (tlD (tlFrom 0 done)), x] k) R := by
  intro l
  induction l with
  | nil => intro done x _ _ h; rw [List.append_nil] at h; exact h x
  | cons g l ih =>
    intro done x nd hl h
    have hg : g ∉ done := fun z => by
      rw [List.nodup_append] at nd
      exact nd.2.2 g z g (List.mem_cons_self ..) rfl
    have hs : setSD (some (.od (tlD (tlFrom 0 done)))) (.int g) (Kd.any (((tlD (tlFrom 0 done)).length : Nat) : Int)).enc = some (.od (tlD (tlFrom 0 (done ++ [g])))) := by
      show (if (tlD (tlFrom 0 done)).length < lim then some (SV.od (setK (tlD (tlFrom 0 done)) (.inl g) (Kd.any _).enc)) else none) = _
      rw [tlD_length, tlFrom_length, if_pos (by rw [List.length_append, List.length_cons] at hl; show _ < 16777216; omega), setK_tlD, setT_tlFrom hg]
    repeat walk_at "st"
    refine go_o hs ?_
    have e : done ++ g :: l = (done ++ [g]) ++ l := by rw [List.append_assoc]; rfl
    rw [e] at nd hl h
    exact ih (done ++ [g]) (.dat (.int g)) nd hl h
theorem plain_ok (k : Kd) (n : Nat) (h : k.dep < n) (hl : k.lv ≤ 1000000) : sem PD w (n + 1) 11 [.dat k.enc] = .ok (k.fill (tlFrom 0 k.gapsL)).enc [] := by
  refine sem_go (d := d11) rfl ?_
  repeat walk_at "st"
  refine go_call (pgaps k n h hl) ?_
  repeat walk_at "st"
  refine plain_loop k.gapsL [] _ (gapsL_nodup k) (Nat.le_trans (gapsL_length k) hl) fun x => ?_
  repeat walk_at "st"
  refine go_call (filled _ k n h) ?_
  refine go_un (by rw [enc_flatT]; rfl) ?_
  repeat walk_at "st"
  exact go_ok rfl
end
theorem plain_ren (k : Kd) : k.fill (tlFrom 0 k.gapsL) = k.ren (plc k.gapsL) :=
  fill_ren (gapsOk_mono (fun i h => by rw [getT_tlFrom _ 0 i h, Nat.zero_add]; rfl) (gapsOk_mem k))
end KS

set_option Elab.async false
set_option linter.all false
set_option maxRecDepth 100000
/-! Pairs: which gap of the one stands for what of the other; wider. -/
namespace KS
open PySem L2
def Kd.pairs : Kd → Kd → Option (List (Int × Kd))
  | .any k, x => some [(k, x)]
  | .num, .num => some []
  | .tru, .tru => some []
  | .fn a b, .fn c d => match a.pairs c with
    | none => none
    | some x => (b.pairs d).map (x ++ ·)
  | .pair a b, .pair c d => match a.pairs c with
    | none => none
    | some x => (b.pairs d).map (x ++ ·)
  | .list a, .list c => a.pairs c
  | _, _ => none
abbrev prL (ps : List (Int × Kd)) : List D := ps.map fun p => .tup [.int p.1, p.2.enc]
def prD : Option (List (Int × Kd)) → D
  | none => .non
  | some ps => .lst (prL ps)
theorem pairs_length : ∀ (v k : Kd) (ps : List (Int × Kd)), v.pairs k = some ps → ps.length ≤ v.lv := by
  intro v
  induction v with
  | any i => intro k ps h; cases h; exact Nat.le_refl _
  | num => intro k ps h; cases k <;> cases h; exact Nat.zero_le _
  | tru => intro k ps h; cases k <;> cases h; exact Nat.zero_le _
  | list a ih => intro k ps h; cases k <;> first | (cases h; done) | exact ih _ ps h
  | fn a b h1 h2 =>
    intro k ps h
    cases k <;> first | (cases h; done) | skip
    rename_i c d
    simp only [Kd.pairs] at h
    split at h
    · cases h
    · rename_i x e
      obtain ⟨y, hy, rfl⟩ := Option.map_eq_some_iff.mp h
      have := h1 c x e
      have := h2 d y hy
      rw [List.length_append]
      show _ ≤ a.lv + b.lv
      omega
  | pair a b h1 h2 =>
    intro k ps h
    cases k <;> first | (cases h; done) | skip
    rename_i c d
    simp only [Kd.pairs] at h
    split at h
    · cases h
    · rename_i x e
      obtain ⟨y, hy, rfl⟩ := Option.map_eq_some_iff.mp h
      have := h1 c x e
      have := h2 d y hy
      rw [List.length_append]
      show _ ≤ a.lv + b.lv
      omega
theorem op_add_pr (f g : List (Int × Kd)) (h : f.length + g.length ≤ 8000000) : opD .add (.lst (prL f)) (.lst (prL g)) = some (.lst (prL (f ++ g))) := by
  show (if (prL f).length + (prL g).length ≤ lim then some (D.lst (prL f ++ prL g)) else none) = _
  rw [List.length_map, List.length_map, if_pos (by show _ ≤ 16777216; omega), ← List.map_append]
section
variable {w : Nat}
local macro_rules | `(tactic| walk_at "st") => `(tactic| first | (refine go_o rfl ?_) | (refine go_tt rfl ?_) | (refine go_ff rfl ?_))
theorem lpairs : ∀ (v k : Kd) (n : Nat), v.dep < n → v.lv ≤ 4000000 → sem PD w n 12 [.dat v.enc, .dat k.enc] = .ok (prD (v.pairs k)) [] := by
  intro v
  induction v with
  | any i =>
    intro k n h _
    obtain ⟨n, rfl⟩ : ∃ m, n = m + 1 := ⟨n - 1, by omega⟩
    refine sem_go (d := d12) rfl ?_
    repeat walk_at "st"
    exact go_ok rfl
  | num =>
    intro k n h _
    obtain ⟨n, rfl⟩ : ∃ m, n = m + 1 := ⟨n - 1, by omega⟩
    refine sem_go (d := d12) rfl ?_
    cases k <;> (repeat walk_at "st") <;> exact go_ok rfl
  | tru =>
    intro k n h _
    obtain ⟨n, rfl⟩ : ∃ m, n = m + 1 := ⟨n - 1, by omega⟩
    refine sem_go (d := d12) rfl ?_
    cases k <;> (repeat walk_at "st") <;> exact go_ok rfl
  | list a ih =>
    intro k n h hl
    obtain ⟨n, rfl⟩ : ∃ m, n = m + 1 := ⟨n - 1, by omega⟩
    refine sem_go (d := d12) rfl ?_
    cases k with
    | list c =>
      have h1 := ih c n (by simp [Kd.dep] at h; omega) hl
      repeat walk_at "st"
      refine go_call h1 ?_
      show Goes _ _ (.ok (prD (a.pairs c)) [])
      cases e : a.pairs c with
      | none =>
        repeat walk_at "st"
        exact go_ok rfl
      | some ps =>
        have hp := pairs_length a c ps e
        have hl : a.lv ≤ 4000000 := hl
        repeat walk_at "st"
        refine go_o (op_add_pr [] ps (Nat.le_trans (Nat.le_of_eq (Nat.zero_add _)) (by omega))) ?_
        repeat walk_at "st"
        exact go_ok rfl
    | _ => (repeat walk_at "st") <;> exact go_ok rfl
  | fn a b ih1 ih2 =>
    intro k n h hl
    obtain ⟨n, rfl⟩ : ∃ m, n = m + 1 := ⟨n - 1, by omega⟩
    refine sem_go (d := d12) rfl ?_
    have hl : a.lv + b.lv ≤ 4000000 := hl
    cases k with
    | fn c d =>
      have h1 := ih1 c n (by simp [Kd.dep] at h; omega) (by omega)
      have h2 := ih2 d n (by simp [Kd.dep] at h; omega) (by omega)
      repeat walk_at "st"
      refine go_call h1 ?_
      show Goes _ _ (.ok (prD (match a.pairs c with
        | none => none
        | some x => (b.pairs d).map (x ++ ·))) [])
      cases e : a.pairs c with
      | none =>
        repeat walk_at "st"
        exact go_ok rfl
      | some ps =>
        have hp := pairs_length a c ps e
        repeat walk_at "st"
        refine go_o (op_add_pr [] ps (Nat.le_trans (Nat.le_of_eq (Nat.zero_add _)) (by omega))) ?_
        repeat walk_at "st"
        refine go_call h2 ?_
        cases e2 : b.pairs d with
        | none =>
          repeat walk_at "st"
          exact go_ok rfl
        | some qs =>
          have hq := pairs_length b d qs e2
          repeat walk_at "st"
          refine go_o (op_add_pr ps qs (by omega)) ?_
          repeat walk_at "st"
          exact go_ok rfl
    | _ => (repeat walk_at "st") <;> exact go_ok rfl
  | pair a b ih1 ih2 =>
    intro k n h hl
    obtain ⟨n, rfl⟩ : ∃ m, n = m + 1 := ⟨n - 1, by omega⟩
    refine sem_go (d := d12) rfl ?_
    have hl : a.lv + b.lv ≤ 4000000 := hl
    cases k with
    | pair c d =>
      have h1 := ih1 c n (by simp [Kd.dep] at h; omega) (by omega)
      have h2 := ih2 d n (by simp [Kd.dep] at h; omega) (by omega)
      repeat walk_at "st"
      refine go_call h1 ?_
      show Goes _ _ (.ok (prD (match a.pairs c with
        | none => none
        | some x => (b.pairs d).map (x ++ ·))) [])
      cases e : a.pairs c with
      | none =>
        repeat walk_at "st"
        exact go_ok rfl
      | some ps =>
        have hp := pairs_length a c ps e
        repeat walk_at "st"
        refine go_o (op_add_pr [] ps (Nat.le_trans (Nat.le_of_eq (Nat.zero_add _)) (by omega))) ?_
        repeat walk_at "st"
        refine go_call h2 ?_
        cases e2 : b.pairs d with
        | none =>
          repeat walk_at "st"
          exact go_ok rfl
        | some qs =>
          have hq := pairs_length b d qs e2
          repeat walk_at "st"
          refine go_o (op_add_pr ps qs (by omega)) ?_
          repeat walk_at "st"
          exact go_ok rfl
    | _ => (repeat walk_at "st") <;> exact go_ok rfl
end
end KS

set_option Elab.async false
set_option linter.all false
set_option maxRecDepth 100000
/-! Wider: the law's own look at whether the one is as wide as the other. -/
namespace KS
open PySem L2
def foldT (t : Tl) : List (Int × Kd) → Tl
  | [] => t
  | p :: ps => foldT (setT t p.1 p.2) ps
theorem mergeD_tlD : ∀ (ps : List (Int × Kd)) (t : Tl), mergeD (tlD t) (tlD ps) = tlD (foldT t ps)
  | [], t => rfl
  | p :: ps, t => by
    show mergeD (setK (tlD t) (.inl p.1) p.2.enc) (tlD ps) = _
    rw [setK_tlD]
    exact mergeD_tlD ps _
theorem pairsK_prL : ∀ ps : List (Int × Kd), pairsK (prL ps) = some (tlD ps)
  | [] => rfl
  | p :: ps => by
    show (match keyOf (.int p.1), pairsK (prL ps) with
      | some k, some r => some ((k, p.2.enc) :: r)
      | _, _ => none) = _
    rw [pairsK_prL ps]
    rfl
def hitT (t : Tl) (p : Int × Kd) : Bool := match getT t p.1 with
  | some v => decide (v = p.2)
  | none => false
def widerB (v k : Kd) : Bool := match v.pairs k with
  | none => false
  | some ps => ps.all (hitT (foldT [] ps))
theorem getT_setT (t : Tl) (k j : Int) (v : Kd) : getT (setT t k v) j = if k = j then some v else getT t j := by
  unfold setT
  by_cases h : (t.any fun p => decide (p.1 = k)) = true
  · rw [if_pos h]
    induction t with
    | nil => cases h
    | cons p t ih =>
      unfold getT
      rw [List.map_cons, List.find?_cons, List.find?_cons]
      by_cases hp : p.1 = k
      · rw [if_pos hp]
        by_cases hj : k = j
        · subst hj; simp [hp]
        · have hj' : ¬ p.1 = j := fun z => hj (hp.symm.trans z)
          simp only [hj', decide_false, if_neg hj]
          by_cases ht : (t.any fun p => decide (p.1 = k)) = true
          · have := ih ht
            unfold getT at this
            rw [this, if_neg hj]
          · have e : (t.map fun p => if p.1 = k then (p.1, v) else p) = t := by
              have : ∀ p, p ∈ t → ¬ p.1 = k := fun q hq z => ht (List.any_eq_true.mpr ⟨q, hq, by simpa using z⟩)
              exact (List.map_congr_left (g := id) fun q hq => if_neg (this q hq)).trans (List.map_id t)
            rw [e]
      · have ht : (t.any fun p => decide (p.1 = k)) = true := by
          rw [List.any_cons] at h
          simpa [hp] using h
        have := ih ht
        unfold getT at this
        rw [if_neg hp]
        by_cases hj : p.1 = j
        · have hkj : ¬ k = j := fun z => hp (hj.trans z.symm)
          simp [hj, hkj]
        · simp only [hj, decide_false]
          exact this
  · rw [if_neg h]
    have hn : ∀ p, p ∈ t → ¬ p.1 = k := fun q hq z => h (List.any_eq_true.mpr ⟨q, hq, by simpa using z⟩)
    unfold getT
    rw [List.find?_append]
    by_cases hj : k = j
    · subst hj
      rw [List.find?_eq_none.mpr (fun q hq => by simpa using hn q hq)]
      simp
    · rw [if_neg hj]
      have : [(k, v)].find? (fun p => decide (p.1 = j)) = none := by simp [hj]
      rw [this]
      cases t.find? (fun p => decide (p.1 = j)) <;> rfl
/-- of the last of them -/
theorem getT_foldT : ∀ (ps : List (Int × Kd)) (t : Tl) (g : Int) (x : Kd), (∀ p, p ∈ ps → p.1 = g → p.2 = x) → ((∃ p, p ∈ ps ∧ p.1 = g) ∨ getT t g = some x) → getT (foldT t ps) g = some x
  | [], t, g, x, _, h => by
    rcases h with ⟨p, hp, _⟩ | h
    · exact (nomatch hp)
    · exact h
  | p :: ps, t, g, x, h1, h2 => by
    refine getT_foldT ps _ g x (fun q hq => h1 q (List.mem_cons_of_mem _ hq)) ?_
    by_cases hp : p.1 = g
    · right
      rw [getT_setT, if_pos hp, h1 p (List.mem_cons_self ..) hp]
    · rcases h2 with ⟨q, hq, e⟩ | h2
      · rcases List.mem_cons.mp hq with rfl | hq
        · exact (hp e).elim
        · exact .inl ⟨q, hq, e⟩
      · right
        rw [getT_setT, if_neg hp, h2]
theorem widerB_of {v k : Kd} {ps : List (Int × Kd)} (h : v.pairs k = some ps) (c : ∀ p q, p ∈ ps → q ∈ ps → p.1 = q.1 → p.2 = q.2) : widerB v k = true := by
  unfold widerB
  rw [h]
  refine List.all_eq_true.mpr fun p hp => ?_
  unfold hitT
  rw [getT_foldT ps [] p.1 p.2 (fun q hq e => c q p hq hp e) (.inl ⟨p, hp, rfl⟩)]
  simp
theorem foldT_some : ∀ (ps : List (Int × Kd)) (t : Tl) (g : Int), (∃ p, p ∈ ps ∧ p.1 = g) ∨ (∃ x, getT t g = some x) → ∃ x, getT (foldT t ps) g = some x
  | [], t, g, h => by
    rcases h with ⟨p, hp, _⟩ | h
    · exact (nomatch hp)
    · exact h
  | p :: ps, t, g, h => by
    refine foldT_some ps _ g ?_
    by_cases hp : p.1 = g
    · exact .inr ⟨p.2, by rw [getT_setT, if_pos hp]⟩
    · rcases h with ⟨q, hq, e⟩ | ⟨x, hx⟩
      · rcases List.mem_cons.mp hq with rfl | hq
        · exact (hp e).elim
        · exact .inl ⟨q, hq, e⟩
      · exact .inr ⟨x, by rw [getT_setT, if_neg hp, hx]⟩
theorem foldT_from : ∀ (ps : List (Int × Kd)) (t : Tl) (g : Int) (x : Kd), getT (foldT t ps) g = some x → (∃ p, p ∈ ps ∧ p.2 = x) ∨ getT t g = some x
  | [], t, g, x, h => .inr h
  | p :: ps, t, g, x, h => by
    rcases foldT_from ps _ g x h with ⟨q, hq, e⟩ | h
    · exact .inl ⟨q, List.mem_cons_of_mem _ hq, e⟩
    · rw [getT_setT] at h
      split at h
      · cases h; exact .inl ⟨p, List.mem_cons_self .., rfl⟩
      · exact .inr h
section
variable {w : Nat}
local macro_rules | `(tactic| walk_at "st") => `(tactic| first | (refine go_o rfl ?_) | (refine go_tt rfl ?_) | (refine go_ff rfl ?_))
def hitO (t : Tl) : D → Option D
  | .tup [.int g, y] => some (.bl (match getT t g with
    | some v => D.eqv v.enc y
    | none => false))
  | _ => none
theorem hit_map (t : Tl) : ∀ ps : List (Int × Kd), (prL ps).filterMap (hitO t) = (ps.map (hitT t)).map D.bl
  | [] => rfl
  | p :: ps => by
    have e : hitO t (.tup [.int p.1, p.2.enc]) = some (.bl (hitT t p)) := by
      show some (D.bl _) = _
      unfold hitT
      cases getT t p.1 with
      | none => rfl
      | some v => exact congrArg (fun x => some (D.bl x)) (eqv_enc v p.2)
    rw [show prL (p :: ps) = .tup [.int p.1, p.2.enc] :: prL ps from rfl, List.filterMap_cons_some e, hit_map t ps]
    rfl
theorem allBl_map : ∀ bs : List Bool, allBl (bs.map D.bl) = some bs
  | [] => rfl
  | b :: bs => by show (allBl (bs.map D.bl)).map (b :: ·) = _; rw [allBl_map bs]; rfl
theorem lwider (v k : Kd) (n : Nat) (h : v.dep < n) (hl : v.lv ≤ 4000000) (hd : ∀ ps, v.pairs k = some ps → ∀ p, p ∈ ps → p.2.dep ≤ 180) : sem PD w (n + 1) 13 [.dat v.enc, .dat k.enc] = .ok (.bl (widerB v k)) [] := by
  refine sem_go (d := d13) rfl ?_
  repeat walk_at "st"
  refine go_call (lpairs v k n h hl) ?_
  unfold widerB
  cases e : v.pairs k with
  | none =>
    repeat walk_at "st"
    exact go_ok rfl
  | some ps =>
    have hp := pairs_length v k ps e
    repeat walk_at "st"
    refine go_o (a := .dic (tlD (foldT [] ps))) (by
      show (pairsK (prL ps)).map (fun kvs => D.dic (mergeD [] kvs)) = _
      rw [pairsK_prL]
      exact congrArg (fun x => some (D.dic x)) (mergeD_tlD ps [])) ?_
    repeat walk_at "st"
    refine go_un rfl ?_
    refine go_un (by show decide (lim < (prL ps).length) = false; rw [List.length_map]; exact decide_eq_false (by show ¬ 16777216 < _; omega)) ?_
    refine comp_go (P := fun ρ => ∃ x y, ρ = [.dat v.enc, .dat k.enc, .dat (.lst (prL ps)), .dat (.dic (tlD (foldT [] ps))), x, y]) (o := hitO (foldT [] ps)) (fun d hdm ρ k2 hp2 hk => ?_) ⟨_, _, rfl⟩ (fun ρ' hp2 => ?_)
    · obtain ⟨x, y, rfl⟩ := hp2
      obtain ⟨p, hpm, rfl⟩ := List.mem_map.mp hdm
      obtain ⟨u, hu⟩ := foldT_some ps [] p.1 (.inl ⟨p, hpm, rfl⟩)
      have hud : u.dep ≤ 180 := by
        rcases foldT_from ps [] p.1 u hu with ⟨q, hq, rfl⟩ | h
        · exact hd ps e q hq
        · cases h
      have hk := hk [.dat v.enc, .dat k.enc, .dat (.lst (prL ps)), .dat (.dic (tlD (foldT [] ps))), .dat (.int p.1), .dat p.2.enc] ⟨_, _, rfl⟩
      have ho : hitO (foldT [] ps) (.tup [.int p.1, p.2.enc]) = some (.bl (decide (u = p.2))) := by
        show some (D.bl (match getT (foldT [] ps) p.1 with
          | some v => D.eqv v.enc p.2.enc
          | none => false)) = _
        rw [hu]
        exact congrArg (fun x => some (D.bl x)) (eqv_enc u p.2)
      rw [ho] at hk
      repeat walk_at "st"
      refine go_o (a := u.enc) (by show getK (tlD (foldT [] ps)) (.inl p.1) = _; rw [getK_tlD, hu]; rfl) ?_
      repeat walk_at "st"
      refine go_o (op_eq_enc u p.2 (by omega)) ?_
      exact hk
    · obtain ⟨x, y, rfl⟩ := hp2
      rw [hit_map]
      repeat walk_at "st"
      refine go_o (a := .bl ((ps.map (hitT (foldT [] ps))).all id)) (by
        show (allBl ((ps.map (hitT (foldT [] ps))).map D.bl)).map (fun bs => D.bl (bs.all id)) = _
        rw [allBl_map]; rfl) ?_
      repeat walk_at "st"
      refine go_ok ?_
      rw [List.all_map]
      rfl
end
end KS

set_option Elab.async false
set_option linter.all false
set_option maxRecDepth 100000
/-! KeepK: two kinds that some filling makes the same. -/
namespace KS
open PySem L2
structure InvK (θ : Int → Kd) (E : Nat) (V : List Int) (t : Tl) (a b : Kd) : Prop where
  mod : Mod θ t
  same : a.app θ = b.app θ
  dep : (a.app θ).dep ≤ E
  ga : ∀ g, g ∈ a.gapsL → g ∈ V
  gb : ∀ g, g ∈ b.gapsL → g ∈ V
  ts : ∀ p, p ∈ t → p.1 ∈ V ∧ ∀ g, g ∈ p.2.gapsL → g ∈ V
theorem gaps_fill {t : Tl} {V : List Int} {a : Kd} (ga : ∀ g, g ∈ a.gapsL → g ∈ V) (ts : ∀ p, p ∈ t → p.1 ∈ V ∧ ∀ g, g ∈ p.2.gapsL → g ∈ V) : ∀ g, g ∈ (a.fill t).gapsL → g ∈ V := by
  rw [fill_app]
  refine gaps_app a fun g hg j hj => ?_
  unfold fnT at hj
  cases e : getT t g with
  | some v => rw [e] at hj; exact (ts _ (getT_in e)).2 j hj
  | none => rw [e] at hj; rcases List.mem_singleton.mp hj with rfl; exact ga _ hg
theorem keepsK {o : Kd → Kd → Kd × Kd} (O : Ori o) {θ : Int → Kd} {E : Nat} {V : List Int} (hV : ∀ g, g ∈ V → (θ g).dep ≤ E) : Keeps o E V (InvK θ E V) := by
  have fd : ∀ {t : Tl} (k : Kd), Mod θ t → (k.app θ).dep ≤ E → (k.fill t).dep ≤ E := fun {t} k m h => by
    have := dep_app θ (k.fill t)
    rw [m.fill] at this
    omega
  have sz : ∀ t a b, TOk t → InvK θ E V t a b → Sz E V t a b := fun t a b ok i => by
    have hb : (b.app θ).dep ≤ E := by rw [← i.same]; exact i.dep
    refine ⟨ok, Nat.le_trans (dep_app θ a) i.dep, Nat.le_trans (dep_app θ b) hb, fd a i.mod i.dep, fd b i.mod hb, gaps_fill i.ga i.ts, gaps_fill i.gb i.ts, fun p hp => ⟨(i.ts p hp).1, ?_, (i.ts p hp).2⟩⟩
    have := dep_app θ p.2
    rw [i.mod p.1 p.2 (getT_self ok.nd p hp)] at this
    exact Nat.le_trans this (hV _ (i.ts p hp).1)
  have ori1 : ∀ {t a b x y}, TOk t → InvK θ E V t a b → o (a.fill t) (b.fill t) = (x, y) → x.app θ = y.app θ ∧ (x.app θ).dep ≤ E ∧ (∀ g, g ∈ x.gapsL → g ∈ V) ∧ ∀ g, g ∈ y.gapsL → g ∈ V := fun {t a b x y} ok i e => by
    have s := sz t a b ok i
    have q := ori_eq O i.mod i.same e
    rcases O.mem e with ⟨rfl, rfl⟩ | ⟨rfl, rfl⟩
    · exact ⟨q, by rw [i.mod.fill]; exact i.dep, s.ga, s.gb⟩
    · exact ⟨q, by rw [i.mod.fill, ← i.same]; exact i.dep, s.gb, s.ga⟩
  refine ⟨sz, fun t a b u v ok i e => ?_, fun t a b x y u1 u2 v1 v2 ok i e c => ?_, fun t a b j y c d ok i e n hj ic => ?_⟩
  · obtain ⟨q1, q2, q3, q4⟩ := ori1 ok i e
    injection q1 with q1
    have q2 : (u.app θ).dep + 1 ≤ E := q2
    exact ⟨i.mod, q1, by omega, fun g hg => q3 g (mem1.mpr hg), fun g hg => q4 g (mem1.mpr hg), i.ts⟩
  · obtain ⟨q1, q2, q3, q4⟩ := ori1 ok i e
    rcases c with ⟨rfl, rfl⟩ | ⟨rfl, rfl⟩
    · injection q1 with q1 q1'
      have q2 : max (u1.app θ).dep (u2.app θ).dep + 1 ≤ E := q2
      exact ⟨⟨i.mod, q1, by omega, fun g hg => q3 g (mem2.mpr (.inl hg)), fun g hg => q4 g (mem2.mpr (.inl hg)), i.ts⟩, ⟨i.mod, q1', by omega, fun g hg => q3 g (mem2.mpr (.inr hg)), fun g hg => q4 g (mem2.mpr (.inr hg)), i.ts⟩⟩
    · injection q1 with q1 q1'
      have q2 : max (u1.app θ).dep (u2.app θ).dep + 1 ≤ E := q2
      exact ⟨⟨i.mod, q1, by omega, fun g hg => q3 g (mem2.mpr (.inl hg)), fun g hg => q4 g (mem2.mpr (.inl hg)), i.ts⟩, ⟨i.mod, q1', by omega, fun g hg => q3 g (mem2.mpr (.inr hg)), fun g hg => q4 g (mem2.mpr (.inr hg)), i.ts⟩⟩
  · obtain ⟨q1, q2, q3, q4⟩ := ori1 ok i e
    have f := (sz t a b ok i).free O e
    refine ⟨ic.mod.grow f.1 q1.symm, ic.same, ic.dep, ic.ga, ic.gb, fun p hp => ?_⟩
    rcases List.mem_append.mp hp with hp | hp
    · obtain ⟨q, hq, rfl⟩ := List.mem_map.mp hp
      refine ⟨(ic.ts q hq).1, fun g hg => ?_⟩
      rcases gaps_one q.2 g hg with z | z
      · exact (ic.ts q hq).2 g z.1
      · exact q4 g z
    · rcases List.mem_singleton.mp hp with rfl
      exact ⟨q3 j (List.mem_singleton.mpr rfl), q4⟩
/-- two kinds that θ makes the same are made the same -/
theorem un_k {o : Kd → Kd → Kd × Kd} (O : Ori o) {θ : Int → Kd} {E : Nat} {V : List Int} {a b : Kd} (hV : ∀ g, g ∈ V → (θ g).dep ≤ E) (same : a.app θ = b.app θ) (dep : (a.app θ).dep ≤ E) (ga : ∀ g, g ∈ a.gapsL → g ∈ V) (gb : ∀ g, g ∈ b.gapsL → g ∈ V) :
    ∃ t', Un o E V (V.length * (E + 1) + E + 1) (2 ^ (V.length * (E + 1) + E + 1) - 1) [] a b (some t') ∧ TOk t' ∧ InvK θ E V t' a b ∧ Sz E V t' a b ∧ a.fill t' = b.fill t' := by
  have i : InvK θ E V [] a b := ⟨.nil, same, dep, ga, gb, fun _ h => nomatch h⟩
  have K := keepsK O hV
  have s := K.sz [] a b .nil i
  have hu : unb V [] ≤ V.length := List.length_filter_le _ _
  have hm := Nat.mul_le_mul_right (E + 1) hu
  obtain ⟨r, un, h⟩ := un_ex O K (V.length * (E + 1) + E) [] a b E .nil i s.fa s.fb (by omega)
  obtain ⟨t', rfl, m⟩ := un.wide O .nil same
  obtain ⟨h1, _, h2⟩ := h t' rfl
  exact ⟨t', un, h1, h2 _ _ i, K.sz _ _ _ h1 (h2 _ _ i), (un.same O t' rfl).2.2⟩
end KS

set_option Elab.async false
set_option linter.all false
set_option maxRecDepth 100000
/-! JoinL: the law's own looks at what joined tells (the first two turned from Lib1 and Wider, other names). -/
namespace KS
open PySem L2
local macro_rules | `(tactic| walk_at "st") => `(tactic| first | (refine go_o rfl ?_) | (refine go_tt rfl ?_) | (refine go_ff rfl ?_))
section
variable {w : Nat}
theorem filled21 (t : Tl) : ∀ (k : Kd) (n : Nat), k.dep < n → sem PD w n 21 [.dat k.enc, .dat (.dic (tlD t))] = .ok (k.fill t).enc [] := by
  intro k
  induction k with
  | num =>
    intro n h
    obtain ⟨n, rfl⟩ : ∃ m, n = m + 1 := ⟨n - 1, by omega⟩
    refine sem_go (d := d21) rfl ?_
    repeat walk_at "st"
    exact go_ok rfl
  | tru =>
    intro n h
    obtain ⟨n, rfl⟩ : ∃ m, n = m + 1 := ⟨n - 1, by omega⟩
    refine sem_go (d := d21) rfl ?_
    repeat walk_at "st"
    exact go_ok rfl
  | list a iha =>
    intro n h
    obtain ⟨n, rfl⟩ : ∃ m, n = m + 1 := ⟨n - 1, by omega⟩
    have h1 := iha n (by simp [Kd.dep] at h; omega)
    refine sem_go (d := d21) rfl ?_
    repeat walk_at "st"
    refine go_call h1 ?_
    repeat walk_at "st"
    exact go_ok rfl
  | fn a b iha ihb =>
    intro n h
    obtain ⟨n, rfl⟩ : ∃ m, n = m + 1 := ⟨n - 1, by omega⟩
    have h1 := iha n (by simp [Kd.dep] at h; omega)
    have h2 := ihb n (by simp [Kd.dep] at h; omega)
    refine sem_go (d := d21) rfl ?_
    repeat walk_at "st"
    refine go_call h1 ?_
    repeat walk_at "st"
    refine go_call h2 ?_
    repeat walk_at "st"
    exact go_ok rfl
  | pair a b iha ihb =>
    intro n h
    obtain ⟨n, rfl⟩ : ∃ m, n = m + 1 := ⟨n - 1, by omega⟩
    have h1 := iha n (by simp [Kd.dep] at h; omega)
    have h2 := ihb n (by simp [Kd.dep] at h; omega)
    refine sem_go (d := d21) rfl ?_
    repeat walk_at "st"
    refine go_call h1 ?_
    repeat walk_at "st"
    refine go_call h2 ?_
    repeat walk_at "st"
    exact go_ok rfl
  | any i =>
    intro n h
    obtain ⟨n, rfl⟩ : ∃ m, n = m + 1 := ⟨n - 1, by omega⟩
    refine sem_go (d := d21) rfl ?_
    repeat walk_at "st"
    refine go_ok ?_
    show RF.ok ((getK (tlD t) (.inl i)).getD (Kd.any i).enc) [] = .ok ((getT t i).getD (.any i)).enc []
    rw [getK_tlD]
    cases getT t i <;> rfl
theorem lwider22 (v k : Kd) (n : Nat) (h : v.dep < n) (hl : v.lv ≤ 4000000) (hd : ∀ ps, v.pairs k = some ps → ∀ p, p ∈ ps → p.2.dep ≤ 180) : sem PD w (n + 1) 22 [.dat v.enc, .dat k.enc] = .ok (.bl (widerB v k)) [] := by
  refine sem_go (d := d22) rfl ?_
  repeat walk_at "st"
  refine go_call (lpairs v k n h hl) ?_
  unfold widerB
  cases e : v.pairs k with
  | none =>
    repeat walk_at "st"
    exact go_ok rfl
  | some ps =>
    have hp := pairs_length v k ps e
    repeat walk_at "st"
    refine go_o (a := .dic (tlD (foldT [] ps))) (by
      show (pairsK (prL ps)).map (fun kvs => D.dic (mergeD [] kvs)) = _
      rw [pairsK_prL]
      exact congrArg (fun x => some (D.dic x)) (mergeD_tlD ps [])) ?_
    repeat walk_at "st"
    refine go_un rfl ?_
    refine go_un (by show decide (lim < (prL ps).length) = false; rw [List.length_map]; exact decide_eq_false (by show ¬ 16777216 < _; omega)) ?_
    refine comp_go (P := fun ρ => ∃ x y, ρ = [.dat v.enc, .dat k.enc, .dat (.lst (prL ps)), .dat (.dic (tlD (foldT [] ps))), x, y]) (o := hitO (foldT [] ps)) (fun d hdm ρ k2 hp2 hk => ?_) ⟨_, _, rfl⟩ (fun ρ' hp2 => ?_)
    · obtain ⟨x, y, rfl⟩ := hp2
      obtain ⟨p, hpm, rfl⟩ := List.mem_map.mp hdm
      obtain ⟨u, hu⟩ := foldT_some ps [] p.1 (.inl ⟨p, hpm, rfl⟩)
      have hud : u.dep ≤ 180 := by
        rcases foldT_from ps [] p.1 u hu with ⟨q, hq, rfl⟩ | h
        · exact hd ps e q hq
        · cases h
      have hk := hk [.dat v.enc, .dat k.enc, .dat (.lst (prL ps)), .dat (.dic (tlD (foldT [] ps))), .dat (.int p.1), .dat p.2.enc] ⟨_, _, rfl⟩
      have ho : hitO (foldT [] ps) (.tup [.int p.1, p.2.enc]) = some (.bl (decide (u = p.2))) := by
        show some (D.bl (match getT (foldT [] ps) p.1 with
          | some v => D.eqv v.enc p.2.enc
          | none => false)) = _
        rw [hu]
        exact congrArg (fun x => some (D.bl x)) (eqv_enc u p.2)
      rw [ho] at hk
      repeat walk_at "st"
      refine go_o (a := u.enc) (by show getK (tlD (foldT [] ps)) (.inl p.1) = _; rw [getK_tlD, hu]; rfl) ?_
      repeat walk_at "st"
      refine go_o (op_eq_enc u p.2 (by omega)) ?_
      exact hk
    · obtain ⟨x, y, rfl⟩ := hp2
      rw [hit_map]
      repeat walk_at "st"
      refine go_o (a := .bl ((ps.map (hitT (foldT [] ps))).all id)) (by
        show (allBl ((ps.map (hitT (foldT [] ps))).map D.bl)).map (fun bs => D.bl (bs.all id)) = _
        rw [allBl_map]; rfl) ?_
      repeat walk_at "st"
      refine go_ok ?_
      rw [List.all_map]
      rfl
theorem told_ok {n : Nat} {a b : D} {t : Tl} (h : sem PD w n 19 [.dat a, .dat b] = .ok (.dic (tlD t)) []) : sem PD w (n + 1) 23 [.dat a, .dat b] = .ok (.dic (tlD t)) [] := by
  refine sem_go (d := d23) rfl ?_
  repeat first | (refine go_o (a := [_, _, _, _, _, _]) rfl ?_) | (refine go_un rfl ?_) | walk_at "st"
  refine go_sub (r := .ok .non [.dat a, .dat b, .dat (.dic (tlD t)), .dat .non, .dead, .dead]) ?_ ?_
  · repeat first | (refine go_o (a := [_, _, _, _, _, _]) rfl ?_) | (refine go_call h ?_) | walk_at "st"
    exact go_ok rfl
  · repeat first | (refine go_o (a := [_, _, _, _, _, _]) rfl ?_) | walk_at "st"
    exact go_ok rfl
theorem told_no {n : Nat} {a b : D} (h : sem PD w n 19 [.dat a, .dat b] = .exc 1 []) : sem PD w (n + 1) 23 [.dat a, .dat b] = .ok (.str 27) [] := by
  refine sem_go (d := d23) rfl ?_
  repeat first | (refine go_o (a := [_, _, _, _, _, _]) rfl ?_) | (refine go_un rfl ?_) | walk_at "st"
  refine go_sub (r := .exc 1 []) ?_ ?_
  · repeat first | (refine go_o (a := [_, _, _, _, _, _]) rfl ?_) | (refine go_call h ?_) | walk_at "st"
    exact go_exc rfl
  · repeat first | (refine go_o (a := [_, _, _, _, _, _]) rfl ?_) | walk_at "st" | (refine go_un rfl ?_)
    exact go_ok rfl
def trues (n : Nat) : List D := List.replicate n (.bl true)
theorem allBl_trues : ∀ n, allBl (trues n) = some (List.replicate n true)
  | 0 => rfl
  | n + 1 => by show (allBl (trues n)).map (true :: ·) = _; rw [allBl_trues n]; rfl
theorem flatL_trues (n : Nat) : flatL (.lst (trues n)) = true := List.all_eq_true.mpr fun d hd => by rw [List.eq_of_mem_replicate hd]; rfl
theorem all_trues (n : Nat) : bifD .all [.lst (trues n)] = some (.bl true) := by
  show (allBl (trues n)).map (fun bs => D.bl (bs.all id)) = _
  rw [allBl_trues]
  have : (List.replicate n true).all id = true := List.all_eq_true.mpr fun b hb => by rw [List.eq_of_mem_replicate hb]; rfl
  show some (D.bl ((List.replicate n true).all id)) = _
  rw [this]
def falses (n : Nat) : List D := List.replicate n (.bl false)
theorem allBl_falses : ∀ n, allBl (falses n) = some (List.replicate n false)
  | 0 => rfl
  | n + 1 => by show (allBl (falses n)).map (false :: ·) = _; rw [allBl_falses n]; rfl
theorem any_falses (n : Nat) : bifD .any [.lst (falses n)] = some (.bl false) := by
  show (allBl (falses n)).map (fun bs => D.bl (bs.any id)) = _
  rw [allBl_falses]
  have : (List.replicate n false).any id = false := by
    rw [List.any_eq_false]
    intro b hb
    rw [List.eq_of_mem_replicate hb]
    exact fun z => nomatch z
  show some (D.bl ((List.replicate n false).any id)) = _
  rw [this]
theorem const_map (c : D) {α : Type} (f : α → D) : ∀ l : List α, (l.map f).filterMap (fun _ => some c) = List.replicate l.length c
  | [] => rfl
  | x :: l => by show c :: (l.map f).filterMap (fun _ => some c) = _; rw [const_map c f l]; rfl
abbrev jsBody : Ss := .cons (.if_ (.or_ (.not_ (.call 8 (.cons (.dx (.var 0) (.var 3)) .nil))) (.bin .notin (.var 3) (.bin .add (.call 7 (.cons (.var 1) .nil)) (.call 7 (.cons (.var 2) .nil))))) (.cons (.ret (.bl false)) .nil) .nil) (.cons (.if_ (.bif .any (.cons (.comp (.bin .isin (.var 4) (.var 0)) [4] (.seq (.call 7 (.cons (.dx (.var 0) (.var 3)) .nil))) (.bl true)) .nil)) (.cons (.ret (.bl false)) .nil) .nil) .nil)
theorem joins_loop {n : Nat} {t : Tl} {a b : Kd} {rt : D → KS.Env → KS.T} (ok : TOk t) (ha : a.dep < n) (hb : b.dep < n) (la : a.lv ≤ 1000000) (lb : b.lv ≤ 1000000) (hv : ∀ p, p ∈ t → p.2.dep + 1 < n ∧ p.2.gapsL.length ≤ 500000 ∧ p.2.gapsOk pos ∧ (p.1 ∈ a.gapsL ∨ p.1 ∈ b.gapsL)) :
    ∀ (l : Tl) (x : SV), (∀ p, p ∈ l → p ∈ t) → Goes (sem PD w n) (forK (fun d ρ2 m b => KS.T.opt (bindT [3] d ρ2) fun ρ3 => exsK w jsBody ρ3 ⟨m, rt, b, m⟩) (l.map fun p => D.int p.1)
      [.dat (.dic (tlD t)), .dat a.enc, .dat b.enc, x, .dead] (fun ρ4 => .ok .non ρ4)) (.ok .non [.dat (.dic (tlD t)), .dat a.enc, .dat b.enc, lastK l x, .dead]) := by
  intro l
  induction l with
  | nil => intro x _; exact go_ok rfl
  | cons p l ih =>
    intro x h
    have hm := h p (List.mem_cons_self ..)
    obtain ⟨v1, v2, v3, v4⟩ := hv p hm
    have h1 : ixDD (.dic (tlD t)) (.int p.1) = some p.2.enc := by show getK (tlD t) (.inl p.1) = _; rw [getK_tlD, getT_self ok.nd p hm]; rfl
    have k1 := iskind (w := w) p.2 n v3 v1
    have g1 := lgaps (w := w) a n ha la
    have g2 := lgaps (w := w) b n hb lb
    have g3 := lgapsN (w := w) p.2 n (by omega) v2
    have q1 := gapsL_length a
    have q2 := gapsL_length b
    have q3 := v2
    have ad := op_add_ints a.gapsL b.gapsL (by show _ ≤ 16777216; omega)
    have nn : opD .notin (.int p.1) (.lst (intsD (a.gapsL ++ b.gapsL))) = some (.bl false) := by
      rw [op_notin_ints, decide_eq_true (List.mem_append.mpr v4)]
      rfl
    rw [List.map_cons]
    repeat first | (refine go_o (a := [_, _, _, _, _]) rfl ?_) | (refine go_call k1 ?_) | (refine go_call g1 ?_) | (refine go_call g2 ?_) | (refine go_o h1 ?_) | (refine go_o ad ?_) | (refine go_o nn ?_) | walk_at "st"
    refine go_call g3 ?_
    refine go_un rfl ?_
    refine go_o rfl ?_
    refine go_o rfl ?_
    refine go_un rfl ?_
    refine go_un (ints_lim (by omega)) ?_
    refine comp_go (P := fun ρ => ∃ y, ρ = [.dat (.dic (tlD t)), .dat a.enc, .dat b.enc, .dat (.int p.1), y]) (o := fun _ => some (.bl false)) (fun d hd ρ k2 hp hk => ?_) ⟨_, rfl⟩ (fun ρ' hp => ?_)
    · obtain ⟨y, rfl⟩ := hp
      obtain ⟨g, hg, rfl⟩ := List.mem_map.mp hd
      have hk := hk [.dat (.dic (tlD t)), .dat a.enc, .dat b.enc, .dat (.int p.1), .dat (.int g)] ⟨_, rfl⟩
      have hi : opD .isin (.int g) (.dic (tlD t)) = some (.bl false) := by
        show some (D.bl (getK (tlD t) (.inl g)).isSome) = _
        rw [getK_tlD, ok.out p hm g hg]
        rfl
      repeat first | (refine go_o (a := [_, _, _, _, _]) rfl ?_) | (refine go_o hi ?_) | walk_at "st"
      exact hk
    · obtain ⟨y, rfl⟩ := hp
      rw [const_map]
      refine go_o (any_falses _) ?_
      repeat first | (refine go_o (a := [_, _, _, _, _]) rfl ?_) | walk_at "st"
      exact ih (.dat (.int p.1)) fun q hq => h q (List.mem_cons_of_mem _ hq)
theorem joins_ok {n : Nat} {t : Tl} {a b : Kd} (ok : TOk t) (ha : a.dep + 1 < n) (hb : b.dep + 1 < n) (la : a.lv ≤ 1000000) (lb : b.lv ≤ 1000000) (hl : t.length ≤ 1000000) (hd : (a.fill t).dep ≤ 180) (hv : ∀ p, p ∈ t → p.2.dep + 1 < n ∧ p.2.gapsL.length ≤ 500000 ∧ p.2.gapsOk pos ∧ (p.1 ∈ a.gapsL ∨ p.1 ∈ b.gapsL)) (same : a.fill t = b.fill t) :
    sem PD w (n + 1) 24 [.dat (.dic (tlD t)), .dat a.enc, .dat b.enc] = .ok (.bl true) [] := by
  obtain ⟨m, rfl⟩ : ∃ m, n = m + 1 := ⟨n - 1, by omega⟩
  have f1 := filled21 (w := w) t a (m + 1) (by omega)
  have f2 := filled21 (w := w) t b (m + 1) (by omega)
  have e1 := op_eq_enc (a.fill t) (b.fill t) (by omega)
  rw [decide_eq_true same] at e1
  refine sem_go (d := d24) rfl ?_
  repeat first | (refine go_o (a := [_, _, _, _, _]) rfl ?_) | walk_at "st" | (refine go_un rfl ?_)
  have hk : keysD (.dic (tlD t)) = some (t.map fun p => D.int p.1) := congrArg some (keys_tlD t)
  refine go_sub (r := .ok (.lst (trues t.length)) [.dat (.dic (tlD t)), .dat a.enc, .dat b.enc, .dead, .dead]) ?_ ?_
  · refine go_o rfl ?_
    refine go_o hk ?_
    refine go_un rfl ?_
    refine go_un (by rw [List.length_map]; exact decide_eq_false (by show ¬ 16777216 < _; omega)) ?_
    refine comp_go (P := fun ρ => ∃ y, ρ = [.dat (.dic (tlD t)), .dat a.enc, .dat b.enc, y, .dead]) (o := fun _ => some (.bl true)) (fun d hd ρ k2 hp hk => ?_) ⟨_, rfl⟩ (fun ρ' hp => ?_)
    · obtain ⟨y, rfl⟩ := hp
      obtain ⟨p, hp, rfl⟩ := List.mem_map.mp hd
      have hk := hk [.dat (.dic (tlD t)), .dat a.enc, .dat b.enc, .dat (.int p.1), .dead] ⟨_, rfl⟩
      have hw := whole (w := w) m (.int p.1) true rfl rfl
      repeat first | (refine go_o (a := [_, _, _, _, _]) rfl ?_) | (refine go_call hw ?_) | walk_at "st"
      exact hk
    · obtain ⟨y, rfl⟩ := hp
      rw [const_map]
      exact go_ok rfl
  · refine go_un (by rw [flatL_trues]; rfl) ?_
    refine go_un rfl ?_
    refine go_o (all_trues _) ?_
    repeat first | (refine go_o (a := [_, _, _, _, _]) rfl ?_) | walk_at "st"
    rw [keys_tlD]
    refine go_sub (joins_loop (w := w) ok (by omega) (by omega) la lb hv t .dead fun _ h => h) ?_
    repeat first | (refine go_call f1 ?_) | (refine go_call f2 ?_) | (refine go_o e1 ?_) | walk_at "st"
    exact go_ok rfl
end
end KS

set_option Elab.async false
set_option linter.all false
set_option maxRecDepth 100000
/-! Loosen: a kind with parts of it made gaps. -/
namespace KS
open PySem L2
local macro_rules | `(tactic| walk_at "st") => `(tactic| first | (refine go_o rfl ?_) | (refine go_tt rfl ?_) | (refine go_ff rfl ?_))
theorem lv_pos : ∀ k : Kd, 1 ≤ k.lv := by
  intro k
  induction k with
  | fn a b h1 h2 => show 1 ≤ a.lv + b.lv; omega
  | pair a b h1 h2 => show 1 ≤ a.lv + b.lv; omega
  | list a h => exact h
  | _ => exact Nat.le_refl _
theorem ix_of2 {α : Type} (f : α → D) (xs : List α) {i : Int} (h0 : 0 ≤ i) (h1 : i < xs.length) : ∃ x, x ∈ xs ∧ ixND (.lst (xs.map f)) (.int i) = some (f x) := by
  obtain ⟨j, rfl⟩ : ∃ j : Nat, i = (j : Int) := ⟨i.toNat, by omega⟩
  have hl : j < xs.length := by omega
  refine ⟨xs[j]'hl, List.getElem_mem hl, ?_⟩
  show atI (xs.map f) _ = _
  exact atI_nat (by rw [List.getElem?_eq_getElem (by rw [List.length_map]; exact hl), List.getElem_map])
theorem setT_ge (t : Tl) (k : Int) (v : Kd) : t.length ≤ (setT t k v).length := by
  unfold setT
  split
  · rw [List.length_map]; exact Nat.le_refl _
  · rw [List.length_append]; omega
/-- which gaps are told while a kind is loosened -/
structure LooT (t : Tl) : Prop where
  keys : ∀ g v, getT t g = some v → 0 ≤ g ∧ (g < 50 ∨ 100 ≤ g ∧ g < 100 + t.length ∨ g = 10 ^ 30)
def Far (k : Kd) : Prop := ∀ g, g ∈ k.gapsL → 50 ≤ g ∧ g < 56
def Ext1 (t t' : Tl) : Prop := ∀ g v, getT t g = some v → getT t' g = some v
theorem Ext1.trans {a b c : Tl} (h : Ext1 a b) (k : Ext1 b c) : Ext1 a c := fun g v e => k g v (h g v e)
theorem LooT.far {t : Tl} (h : LooT t) {g : Int} (h1 : 50 ≤ g) (h2 : g < 56) : getT t g = none := by
  cases e : getT t g with
  | none => rfl
  | some v =>
    obtain ⟨_, q⟩ := h.keys g v e
    omega
theorem LooT.new {t : Tl} (h : LooT t) (hl : t.length ≤ 100000) : getT t (100 + (t.length : Nat)) = none := by
  cases e : getT t (100 + (t.length : Nat)) with
  | none => rfl
  | some v =>
    obtain ⟨_, q⟩ := h.keys _ v e
    omega
theorem LooT.put {t : Tl} (h : LooT t) (hl : t.length ≤ 100000) {g : Int} {k : Kd} (hg : g = 100 + (t.length : Nat) ∨ getT t g = some k) : LooT (setT t g k) ∧ Ext1 t (setT t g k) := by
  refine ⟨⟨fun j v e => ?_⟩, fun j v e => ?_⟩
  · rw [getT_setT] at e
    have ge := setT_ge t g k
    by_cases c : g = j
    · subst c
      rcases hg with hg | hg
      · have : (setT t g k).length = t.length + 1 := by
          have hn := h.new hl
          rw [← hg] at hn
          rw [setT_new (getT_none.mp hn), List.length_append]
          rfl
        omega
      · have := h.keys g k hg
        omega
    · rw [if_neg c] at e
      have := h.keys j v e
      omega
  · rw [getT_setT]
    by_cases c : g = j
    · subst c
      rw [if_pos rfl]
      rcases hg with hg | hg
      · have hn := h.new hl
        rw [← hg, e] at hn
        cases hn
      · rw [hg] at e; exact e
    · rw [if_neg c]; exact e
/-- what is asked of a loosened one -/
structure Loo (kd : Kd) (t : Tl) (k' : Kd) (t' : Tl) : Prop where
  ok : LooT t'
  len : t'.length ≤ t.length + kd.lv
  ext : Ext1 t t'
  app : ∀ t2, LooT t2 → Ext1 t' t2 → k'.app (fnT t2) = kd
  pos : ∀ g, g ∈ k'.gapsL → 0 ≤ g
theorem fnT_some {t : Tl} {g : Int} {v : Kd} (h : getT t g = some v) : fnT t g = v := by unfold fnT; rw [h]; rfl
theorem fnT_none {t : Tl} {g : Int} (h : getT t g = none) : fnT t g = .any g := by unfold fnT; rw [h]; rfl
def sameL (t : Tl) (kd : Kd) : List Int := (t.map (·.1)).filter fun g => decide (getT t g = some kd)
def sameO (t : Tl) (kd : Kd) : D → Option D
  | .int g => if getT t g = some kd then some (.int g) else none
  | d => some d
theorem same_map (t : Tl) (kd : Kd) : ∀ l : Tl, (l.map fun p => D.int p.1).filterMap (sameO t kd) = intsD ((l.map (·.1)).filter fun g => decide (getT t g = some kd))
  | [] => rfl
  | p :: l => by
    by_cases h : getT t p.1 = some kd
    · have e : sameO t kd (.int p.1) = some (.int p.1) := if_pos h
      rw [List.map_cons, List.filterMap_cons_some e, same_map t kd l, List.map_cons, List.filter_cons_of_pos (by simpa using h)]
      rfl
    · have e : sameO t kd (.int p.1) = none := if_neg h
      rw [List.map_cons, List.filterMap_cons_none e, same_map t kd l, List.map_cons, List.filter_cons_of_neg (by simpa using h)]
theorem flatL_ints (l : List Int) : flatL (.lst (intsD l)) = true := List.all_eq_true.mpr fun d hd => by
  obtain ⟨j, _, rfl⟩ := List.mem_map.mp hd
  rfl
section
variable {w : Nat} {ns : List Int}
/-- the gap that is made -/
theorem loose_gap {kd : Kd} {n : Nat} {k v : Int} {t : Tl} (h : LooT t) (hl : t.length ≤ 1000) (hd : kd.dep ≤ 100) (hv : sem PD w n 2 [.dat (.scr ns), .dat (.int k)] = .ok (.int v) []) (h0 : 0 ≤ v) (h3 : v % 3 = 0) :
    ∃ g : Int, (g = 100 + (t.length : Nat) ∨ getT t g = some kd) ∧ sem PD w (n + 1) 25 [.dat (.scr ns), .dat (.int k), .dat kd.enc, .od (tlD t)] = .ok (Kd.any g).enc [.od (tlD (setT t g kd))] := by
  have hk : keysD (.dic (tlD t)) = some (t.map fun p => D.int p.1) := congrArg some (keys_tlD t)
  have lr : (100 + ((tlD t).length : Nat) : Int) = 100 + (t.length : Nat) := by rw [tlD_length]
  have put : ∀ g : Int, setSD (some (.od (tlD t))) (.int g) kd.enc = some (.od (tlD (setT t g kd))) := fun g => by
    show (if (tlD t).length < lim then some (SV.od (setK (tlD t) (.inl g) kd.enc)) else none) = _
    rw [tlD_length, if_pos (by show _ < 16777216; omega), setK_tlD]
  have m3 : opD .mod (.int v) (.int 3) = some (.int 0) := by show some (D.int (v % 3)) = _; rw [h3]
  have sub : ∀ (ρ4 ρ5 ρ6 ρ7 ρ8 ρ9 : SV), ρ4 = .dat (.int v) → ρ5 = .dead → ρ6 = .dead → ρ7 = .dead → ρ8 = .dead → ρ9 = .dead →
      Goes (sem PD w n) (evK false false (.comp (.var 8) [8] (.keys (.var 3)) (.bin .eq (.dx (.var 3) (.var 8)) (.var 2))) [.dat (.scr ns), .dat (.int k), .dat kd.enc, .dat (.dic (tlD t)), ρ4, ρ5, ρ6, ρ7, ρ8, ρ9] fun d ρ2 => .ok d ρ2)
        (.ok (.lst (intsD (sameL t kd))) [.dat (.scr ns), .dat (.int k), .dat kd.enc, .dat (.dic (tlD t)), ρ4, ρ5, ρ6, ρ7, ρ8, ρ9]) := by
    rintro _ _ _ _ _ _ rfl rfl rfl rfl rfl rfl
    refine go_o rfl ?_
    refine go_o hk ?_
    refine go_un rfl ?_
    refine go_un (by rw [List.length_map]; exact decide_eq_false (by show ¬ 16777216 < _; omega)) ?_
    refine comp_go (P := fun ρ => ∃ y, ρ = [.dat (.scr ns), .dat (.int k), .dat kd.enc, .dat (.dic (tlD t)), .dat (.int v), .dead, .dead, .dead, y, .dead]) (o := sameO t kd) (fun d hd ρ k2 hp hk => ?_) ⟨_, rfl⟩ (fun ρ' hp => ?_)
    · obtain ⟨y, rfl⟩ := hp
      obtain ⟨p, hp, rfl⟩ := List.mem_map.mp hd
      obtain ⟨u, hu⟩ : ∃ u, getT t p.1 = some u := by
        cases e : getT t p.1 with
        | some u => exact ⟨u, rfl⟩
        | none => exact (getT_none.mp e (List.mem_map.mpr ⟨p, hp, rfl⟩)).elim
      have hk := hk [.dat (.scr ns), .dat (.int k), .dat kd.enc, .dat (.dic (tlD t)), .dat (.int v), .dead, .dead, .dead, .dat (.int p.1), .dead] ⟨_, rfl⟩
      have h1 : ixDD (.dic (tlD t)) (.int p.1) = some u.enc := by show getK (tlD t) (.inl p.1) = _; rw [getK_tlD, hu]; rfl
      repeat first | (refine go_o (a := [_, _, _, _, _, _, _, _, _, _]) rfl ?_) | (refine go_o h1 ?_) | walk_at "st"
      refine go_o (op_eq_enc u kd (by omega)) ?_
      refine go_o rfl ?_
      by_cases c : u = kd
      · refine go_tt (decide_eq_true c) ?_
        rw [show sameO t kd (.int p.1) = some (.int p.1) from if_pos (by rw [hu, c])] at hk
        repeat first | (refine go_o (a := [_, _, _, _, _, _, _, _, _, _]) rfl ?_) | walk_at "st"
        exact hk
      · refine go_ff (decide_eq_false c) ?_
        rw [show sameO t kd (.int p.1) = none from if_neg (by rw [hu]; intro z; cases z; exact c rfl)] at hk
        exact hk
    · obtain ⟨y, rfl⟩ := hp
      rw [same_map]
      exact go_ok rfl
  have start : ∀ {R : RF}, (Goes (sem PD w n) (exsK w (.cons (.asg 8 (.bin .add (.int 100) (.bif .len (.cons (.var 3) .nil)))) (.cons (.if_ (.and_ (.var 7) (.bin .gt (.bin .mod (.bin .fdiv (.var 4) (.int 3)) (.int 3)) (.int 0))) (.cons (.asg 8 (.ix (.var 7) (.bin .mod (.bin .fdiv (.var 4) (.int 9)) (.bif .len (.cons (.var 7) .nil))))) .nil) .nil) (.cons (.putD (3, none) (.var 8) (.var 2)) (.cons (.ret (.tup (.cons (.str 0) (.cons (.var 8) .nil)))) .nil))))
        [.dat (.scr ns), .dat (.int k), .dat kd.enc, .od (tlD t), .dat (.int v), .dead, .dead, .dat (.lst (intsD (sameL t kd))), .dead, .dead] (finK [false, false, false, true])) R) → sem PD w (n + 1) 25 [.dat (.scr ns), .dat (.int k), .dat kd.enc, .od (tlD t)] = R := fun {R} q => by
    refine sem_go (d := d25) rfl ?_
    repeat first | (refine go_o (a := [_, _, _, _, _, _, _, _, _, _]) rfl ?_) | (refine go_call hv ?_) | (refine go_o m3 ?_) | walk_at "st" | (refine go_un rfl ?_)
    refine go_sub (sub _ _ _ _ _ _ rfl rfl rfl rfl rfl rfl) ?_
    refine go_un (by rw [flatL_ints]; rfl) ?_
    refine go_o (a := [_, _, _, _, _, _, _, _, _, _]) rfl ?_
    exact q
  have ll : bifD .len [.dic (tlD t)] = some (.int (t.length : Nat)) := by rw [← tlD_length]; rfl
  by_cases hs : sameL t kd = []
  · refine ⟨100 + (t.length : Nat), .inl rfl, start ?_⟩
    rw [hs]
    repeat first | (refine go_o (a := [_, _, _, _, _, _, _, _, _, _]) rfl ?_) | (refine go_o ll ?_) | (refine go_o (put _) ?_) | (refine go_un rfl ?_) | walk_at "st"
    exact go_ok rfl
  · have hne : truth (.lst (intsD (sameL t kd))) = some true := by
      cases e : sameL t kd with
      | nil => exact (hs e).elim
      | cons a l => rfl
    have hlen : 0 < (sameL t kd).length := List.length_pos_iff.mpr hs
    by_cases c : v / 3 % 3 > 0
    · obtain ⟨g, hg, hi⟩ := ix_of2 D.int (sameL t kd) (i := v / 9 % ((sameL t kd).length : Int)) (Int.emod_nonneg _ (by omega)) (Int.emod_lt_of_pos _ (by omega))
      have hg := of_decide_eq_true (List.mem_filter.mp hg).2
      have hm : opD .mod (.int (v / 9)) (.int ((intsD (sameL t kd)).length : Nat)) = some (.int (v / 9 % ((sameL t kd).length : Int))) := by
        rw [List.length_map]
        show (if (0 : Int) < ((sameL t kd).length : Int) then some (D.int _) else none) = _
        rw [if_pos (by omega)]
      refine ⟨g, .inr hg, start ?_⟩
      repeat first | (refine go_o (a := [_, _, _, _, _, _, _, _, _, _]) rfl ?_) | (refine go_o ll ?_) | (refine go_o (put _) ?_) | (refine go_o hne ?_) | (refine go_o hm ?_) | (refine go_o hi ?_) | (refine go_tt (decide_eq_true c) ?_) | (refine go_un rfl ?_) | walk_at "st"
      exact go_ok rfl
    · refine ⟨100 + (t.length : Nat), .inl rfl, start ?_⟩
      repeat first | (refine go_o (a := [_, _, _, _, _, _, _, _, _, _]) rfl ?_) | (refine go_o ll ?_) | (refine go_o (put _) ?_) | (refine go_o hne ?_) | (refine go_ff (decide_eq_false c) ?_) | (refine go_un rfl ?_) | walk_at "st"
      exact go_ok rfl
theorem loosened : ∀ (kd : Kd) (n : Nat) (k : Int) (t : Tl), LooT t → t.length + kd.lv ≤ 1000 → Far kd → kd.dep ≤ 100 →
    ∃ k' t', Loo kd t k' t' ∧ sem PD w (n + kd.dep + 3) 25 [.dat (.scr ns), .dat (.int k), .dat kd.enc, .od (tlD t)] = .ok k'.enc [.od (tlD t')] := by
  have gapd : ∀ (kd : Kd) (m : Nat) (k v : Int) (t : Tl), LooT t → t.length + kd.lv ≤ 1000 → kd.dep ≤ 100 → sem PD w m 2 [.dat (.scr ns), .dat (.int k)] = .ok (.int v) [] → 0 ≤ v → v % 3 = 0 →
      ∃ k' t', Loo kd t k' t' ∧ sem PD w (m + 1) 25 [.dat (.scr ns), .dat (.int k), .dat kd.enc, .od (tlD t)] = .ok k'.enc [.od (tlD t')] := fun kd m k v t ht hl hd hv h0 h3 => by
    obtain ⟨g, hg, hr⟩ := loose_gap ht (by omega) hd hv h0 h3
    obtain ⟨p1, p2⟩ := ht.put (by omega) hg
    have hg2 : getT (setT t g kd) g = some kd := by rw [getT_setT, if_pos rfl]
    have := lv_pos kd
    refine ⟨.any g, setT t g kd, ⟨p1, Nat.le_trans (setT_length t g kd) (by omega), p2, fun t2 h2 e2 => fnT_some (e2 g kd hg2), fun j hj => ?_⟩, hr⟩
    rcases List.mem_singleton.mp hj with rfl
    exact (p1.keys _ _ hg2).1
  have m3 : ∀ {v : Int}, ¬ v % 3 = 0 → (v % 3 == 0) = false := fun {v} h => by simpa using h
  intro kd
  induction kd with
  | num =>
    intro n k t ht hl hf hd
    obtain ⟨v, h0, hv⟩ := mix (w := w) (ns := ns) n k
    by_cases c : v % 3 = 0
    · exact gapd _ _ k v t ht hl hd hv h0 c
    · refine ⟨.num, t, ⟨ht, by omega, fun _ _ e => e, fun _ _ _ => rfl, fun _ h => nomatch h⟩, sem_go (d := d25) rfl ?_⟩
      repeat first | (refine go_o (a := [_, _, _, _, _, _, _, _, _, _]) rfl ?_) | (refine go_call hv ?_) | (refine go_ff (m3 c) ?_) | (refine go_un rfl ?_) | walk_at "st"
      exact go_ok rfl
  | tru =>
    intro n k t ht hl hf hd
    obtain ⟨v, h0, hv⟩ := mix (w := w) (ns := ns) n k
    by_cases c : v % 3 = 0
    · exact gapd _ _ k v t ht hl hd hv h0 c
    · refine ⟨.tru, t, ⟨ht, by omega, fun _ _ e => e, fun _ _ _ => rfl, fun _ h => nomatch h⟩, sem_go (d := d25) rfl ?_⟩
      repeat first | (refine go_o (a := [_, _, _, _, _, _, _, _, _, _]) rfl ?_) | (refine go_call hv ?_) | (refine go_ff (m3 c) ?_) | (refine go_un rfl ?_) | walk_at "st"
      exact go_ok rfl
  | any i =>
    intro n k t ht hl hf hd
    have hi := hf i (List.mem_singleton.mpr rfl)
    obtain ⟨v, h0, hv⟩ := mix (w := w) (ns := ns) n k
    by_cases c : v % 3 = 0
    · exact gapd _ _ k v t ht hl hd hv h0 c
    · refine ⟨.any i, t, ⟨ht, by omega, fun _ _ e => e, fun t2 h2 _ => fnT_none (h2.far hi.1 hi.2), fun g h => by rcases List.mem_singleton.mp h with rfl; omega⟩, sem_go (d := d25) rfl ?_⟩
      repeat first | (refine go_o (a := [_, _, _, _, _, _, _, _, _, _]) rfl ?_) | (refine go_call hv ?_) | (refine go_ff (m3 c) ?_) | (refine go_un rfl ?_) | walk_at "st"
      exact go_ok rfl
  | list a ih =>
    intro n k t ht hl hf hd
    have hd : a.dep + 1 ≤ 100 := hd
    obtain ⟨v, h0, hv⟩ := mix (w := w) (ns := ns) (n + a.dep + 1) k
    by_cases c : v % 3 = 0
    · exact gapd _ _ k v t ht hl hd hv h0 c
    · obtain ⟨a', t1, q, hr⟩ := ih n (2 * k + 1) t ht hl (fun g hg => hf g (mem1.mpr hg)) (by omega)
      refine ⟨.list a', t1, ⟨q.ok, q.len, q.ext, fun t2 h2 e2 => congrArg Kd.list (q.app t2 h2 e2), fun g h => q.pos g (mem1.mp h)⟩, sem_go (d := d25) rfl ?_⟩
      repeat first | (refine go_o (a := [_, _, _, _, _, _, _, _, _, _]) rfl ?_) | (refine go_call hv ?_) | (refine go_call hr ?_) | (refine go_o (mul_l rfl) ?_) | (refine go_ff (m3 c) ?_) | (refine go_un rfl ?_) | walk_at "st"
      exact go_ok rfl
  | fn a b iha ihb =>
    intro n k t ht hl hf hd
    have hd2 : max a.dep b.dep + 1 ≤ 100 := hd
    have hl2 : t.length + (a.lv + b.lv) ≤ 1000 := hl
    obtain ⟨v, h0, hv⟩ := mix (w := w) (ns := ns) (n + max a.dep b.dep + 1) k
    by_cases c : v % 3 = 0
    · exact gapd _ _ k v t ht hl hd hv h0 c
    · obtain ⟨a', t1, q, hr⟩ := iha (n + (max a.dep b.dep - a.dep)) (2 * k + 1) t ht (by omega) (fun g hg => hf g (mem2.mpr (.inl hg))) (by omega)
      have ql := q.len
      obtain ⟨b', t2, q2, hr2⟩ := ihb (n + (max a.dep b.dep - b.dep)) (2 * k + 2) t1 q.ok (by omega) (fun g hg => hf g (mem2.mpr (.inr hg))) (by omega)
      have ql2 := q2.len
      rw [show n + (max a.dep b.dep - a.dep) + a.dep + 3 = n + max a.dep b.dep + 3 by omega] at hr
      rw [show n + (max a.dep b.dep - b.dep) + b.dep + 3 = n + max a.dep b.dep + 3 by omega] at hr2
      refine ⟨.fn a' b', t2, ⟨q2.ok, by show _ ≤ _ + (a.lv + b.lv); omega, q.ext.trans q2.ext, fun t3 h3 e3 => ?_, fun g h => (mem2.mp h).elim (q.pos g) (q2.pos g)⟩, sem_go (d := d25) rfl ?_⟩
      · show Kd.fn _ _ = _
        rw [q.app t3 h3 (q2.ext.trans e3), q2.app t3 h3 e3]
      · repeat first | (refine go_o (a := [_, _, _, _, _, _, _, _, _, _]) rfl ?_) | (refine go_call hv ?_) | (refine go_call hr ?_) | (refine go_call hr2 ?_) | (refine go_o (mul_l rfl) ?_) | (refine go_ff (m3 c) ?_) | (refine go_un rfl ?_) | walk_at "st"
        exact go_ok rfl
  | pair a b iha ihb =>
    intro n k t ht hl hf hd
    have hd2 : max a.dep b.dep + 1 ≤ 100 := hd
    have hl2 : t.length + (a.lv + b.lv) ≤ 1000 := hl
    obtain ⟨v, h0, hv⟩ := mix (w := w) (ns := ns) (n + max a.dep b.dep + 1) k
    by_cases c : v % 3 = 0
    · exact gapd _ _ k v t ht hl hd hv h0 c
    · obtain ⟨a', t1, q, hr⟩ := iha (n + (max a.dep b.dep - a.dep)) (2 * k + 1) t ht (by omega) (fun g hg => hf g (mem2.mpr (.inl hg))) (by omega)
      have ql := q.len
      obtain ⟨b', t2, q2, hr2⟩ := ihb (n + (max a.dep b.dep - b.dep)) (2 * k + 2) t1 q.ok (by omega) (fun g hg => hf g (mem2.mpr (.inr hg))) (by omega)
      have ql2 := q2.len
      rw [show n + (max a.dep b.dep - a.dep) + a.dep + 3 = n + max a.dep b.dep + 3 by omega] at hr
      rw [show n + (max a.dep b.dep - b.dep) + b.dep + 3 = n + max a.dep b.dep + 3 by omega] at hr2
      refine ⟨.pair a' b', t2, ⟨q2.ok, by show _ ≤ _ + (a.lv + b.lv); omega, q.ext.trans q2.ext, fun t3 h3 e3 => ?_, fun g h => (mem2.mp h).elim (q.pos g) (q2.pos g)⟩, sem_go (d := d25) rfl ?_⟩
      · show Kd.pair _ _ = _
        rw [q.app t3 h3 (q2.ext.trans e3), q2.app t3 h3 e3]
      · repeat first | (refine go_o (a := [_, _, _, _, _, _, _, _, _, _]) rfl ?_) | (refine go_call hv ?_) | (refine go_call hr ?_) | (refine go_call hr2 ?_) | (refine go_o (mul_l rfl) ?_) | (refine go_ff (m3 c) ?_) | (refine go_un rfl ?_) | walk_at "st"
        exact go_ok rfl
end
end KS

set_option Elab.async false
set_option linter.all false
set_option maxRecDepth 100000
/-! GapsV: which gaps the made kinds have (turned from Lib1). -/
namespace KS
open PySem L2
local macro_rules | `(tactic| walk_at "st") => `(tactic| first | (refine go_o rfl ?_) | (refine go_tt rfl ?_) | (refine go_ff rfl ?_))
abbrev baseG : Int → Prop := fun g => g = 0 ∨ g = 1 ∨ g = 2 ∨ g = 3 ∨ g = 7 ∨ g = 10 ^ 30
theorem base_pos {g : Int} (h : baseG g) : 0 ≤ g := by
  rcases h with h | h | h | h | h | h <;> rw [h] <;> decide
section
variable {w : Nat} {ns : List Int}
theorem gapV (n : Nat) (v : Int) (h : 0 ≤ v) : ∃ g, baseG g ∧ sem PD w (n + 1) 4 [.dat (.int v)] = .ok (Kd.any g).enc [] := by
  obtain ⟨r, hr⟩ : ∃ r, v % 6 = r := ⟨_, rfl⟩
  have h0 : 0 ≤ r := by rw [← hr]; exact Int.emod_nonneg _ (by decide)
  have h1 : r < 6 := by rw [← hr]; exact Int.emod_lt_of_pos _ (by decide)
  have go : ∀ g : Int, baseG g → ixND (.lst [.int 0, .int 1, .int 2, .int 3, .int 7, .int (10 ^ 30)]) (.int r) = some (.int g) → ∃ g, baseG g ∧ sem PD w (n + 1) 4 [.dat (.int v)] = .ok (Kd.any g).enc [] := fun g hg hi => by
    refine ⟨g, hg, sem_go (d := d4) rfl ?_⟩
    repeat walk_at "st"
    refine go_o (show ixND (.lst [.int 0, .int 1, .int 2, .int 3, .int 7, .int (10 ^ 30)]) (.int (v % 6)) = some (.int g) by rw [hr]; exact hi) ?_
    repeat walk_at "st"
    exact go_ok rfl
  have : r = 0 ∨ r = 1 ∨ r = 2 ∨ r = 3 ∨ r = 4 ∨ r = 5 := by omega
  rcases this with rfl | rfl | rfl | rfl | rfl | rfl
  · exact go 0 (by unfold baseG; decide) rfl
  · exact go 1 (by unfold baseG; decide) rfl
  · exact go 2 (by unfold baseG; decide) rfl
  · exact go 3 (by unfold baseG; decide) rfl
  · exact go 7 (by unfold baseG; decide) rfl
  · exact go (10 ^ 30) (by unfold baseG; decide) rfl
theorem kindV : ∀ (deep n : Nat) (k : Int), ∃ t : Kd, t.dep ≤ deep ∧ t.gapsOk baseG ∧ sem PD w (n + deep + 3) 5 [.dat (.scr ns), .dat (.int k), .dat (.int deep)] = .ok t.enc [] := by
  have leaf : ∀ (n : Nat) (v : Int) (G : Gm) (hG : ∀ v : Int, 0 ≤ v → ∃ g, baseG g ∧ G 4 [.dat (.int v)] = .ok (Kd.any g).enc []) (h0 : 0 ≤ v), ∃ t : Kd, t.dep = 0 ∧ t.gapsOk baseG ∧ ∃ g1, G 4 [.dat (.int (v / 28))] = .ok (Kd.any g1).enc [] ∧
      ixND (.lst [Kd.num.enc, Kd.tru.enc, (Kd.any g1).enc, (Kd.any g1).enc]) (.int (v / 7 % 4)) = some t.enc := by
    intro n v G hG h0
    obtain ⟨g1, p1, hg⟩ := hG (v / 28) (Int.ediv_nonneg h0 (by decide))
    have h1 : 0 ≤ v / 7 % 4 := Int.emod_nonneg _ (by decide)
    have h2 : v / 7 % 4 < 4 := Int.emod_lt_of_pos _ (by decide)
    have : v / 7 % 4 = 0 ∨ v / 7 % 4 = 1 ∨ v / 7 % 4 = 2 ∨ v / 7 % 4 = 3 := by omega
    rcases this with e | e | e | e
    · exact ⟨.num, rfl, trivial, g1, hg, by rw [e]; rfl⟩
    · exact ⟨.tru, rfl, trivial, g1, hg, by rw [e]; rfl⟩
    · exact ⟨.any g1, rfl, p1, g1, hg, by rw [e]; rfl⟩
    · exact ⟨.any g1, rfl, p1, g1, hg, by rw [e]; rfl⟩
  intro deep
  induction deep with
  | zero =>
    intro n k
    obtain ⟨v, h0, hv⟩ := mix (w := w) (ns := ns) n k
    obtain ⟨t, t1, t2, g1, t3, t4⟩ := leaf n v (sem PD w (n + 2)) (fun v h => gapV (n + 1) v h) h0
    refine ⟨t, by omega, t2, sem_go (d := d5) rfl ?_⟩
    repeat walk_at "st"
    refine go_call hv ?_
    repeat walk_at "st"
    refine go_call t3 ?_
    repeat walk_at "st"
    refine go_call t3 ?_
    repeat walk_at "st"
    refine go_o t4 ?_
    repeat walk_at "st"
    exact go_ok rfl
  | succ deep ih =>
    intro n k
    obtain ⟨v, h0, hv⟩ := mix (w := w) (ns := ns) (n + deep + 1) k
    have ed : ((deep + 1 : Nat) : Int) - 1 = (deep : Int) := by omega
    by_cases c1 : v % 7 < 2
    · obtain ⟨t, t1, t2, g1, t3, t4⟩ := leaf n v (sem PD w (n + deep + 3)) (fun v h => gapV (n + deep + 2) v h) h0
      refine ⟨t, by omega, t2, sem_go (d := d5) rfl ?_⟩
      repeat walk_at "st"
      refine go_call hv ?_
      repeat walk_at "st"
      refine go_tt (decide_eq_true c1) ?_
      repeat walk_at "st"
      refine go_call t3 ?_
      repeat walk_at "st"
      refine go_call t3 ?_
      repeat walk_at "st"
      refine go_o t4 ?_
      repeat walk_at "st"
      exact go_ok rfl
    · by_cases c2 : v % 7 = 2
      · obtain ⟨t, t1, t2, t3⟩ := ih n (2 * k + 1)
        rw [← ed] at t3
        refine ⟨.list t, Nat.succ_le_succ t1, t2, sem_go (d := d5) rfl ?_⟩
        repeat walk_at "st"
        refine go_call hv ?_
        repeat walk_at "st"
        refine go_ff (decide_eq_false c1) ?_
        repeat walk_at "st"
        refine go_tt (show (v % 7 == 2) = true by simpa using c2) ?_
        repeat walk_at "st"
        refine go_call t3 ?_
        repeat walk_at "st"
        exact go_ok rfl
      · obtain ⟨t, t1, t2, t3⟩ := ih n (2 * k + 1)
        obtain ⟨u, u1, u2, u3⟩ := ih n (2 * k + 2)
        rw [← ed] at t3 u3
        have fin : ∀ (s : Nat) (r : Kd), r.enc = .tup [.str s, t.enc, u.enc] → r.dep ≤ deep + 1 → r.gapsOk baseG → ixND (.lst [.str 3, .str 4]) (.int (v % 2)) = some (.str s) →
            ∃ t : Kd, t.dep ≤ deep + 1 ∧ t.gapsOk baseG ∧ sem PD w (n + (deep + 1) + 3) 5 [.dat (.scr ns), .dat (.int k), .dat (.int ((deep + 1 : Nat) : Int))] = .ok t.enc [] := fun s r e1 e2 e3 e4 => by
          refine ⟨r, e2, e3, sem_go (d := d5) rfl ?_⟩
          repeat walk_at "st"
          refine go_call hv ?_
          repeat walk_at "st"
          refine go_ff (decide_eq_false c1) ?_
          repeat walk_at "st"
          refine go_ff (show (v % 7 == 2) = false by simpa using c2) ?_
          repeat walk_at "st"
          refine go_o e4 ?_
          repeat walk_at "st"
          refine go_call t3 ?_
          repeat walk_at "st"
          refine go_call u3 ?_
          repeat walk_at "st"
          exact go_ok (by rw [e1])
        have h1 : 0 ≤ v % 2 := Int.emod_nonneg _ (by decide)
        have h2 : v % 2 < 2 := Int.emod_lt_of_pos _ (by decide)
        have hd : max t.dep u.dep + 1 ≤ deep + 1 := by omega
        have : v % 2 = 0 ∨ v % 2 = 1 := by omega
        rcases this with e | e
        · exact fin 3 (.fn t u) rfl hd ⟨t2, u2⟩ (by rw [e]; rfl)
        · exact fin 4 (.pair t u) rfl hd ⟨t2, u2⟩ (by rw [e]; rfl)
end
end KS

set_option Elab.async false
set_option linter.all false
set_option maxRecDepth 100000
/-! SolveW: the law's own solving comes to what Un tells (the law's way about). -/
namespace KS
open PySem L2
local macro_rules | `(tactic| walk_at "st") => `(tactic| first | (refine go_o rfl ?_) | (refine go_tt rfl ?_) | (refine go_ff rfl ?_))
theorem flat_un (k : Kd) : (true && !(k.enc.flatT && ([] : List SV).all SV.flatE)) = false := by rw [enc_flatT]; rfl
theorem setT_mid {A B : Tl} {k : Int} {v u : Kd} (ha : k ∉ A.map (·.1)) (hb : k ∉ B.map (·.1)) : setT (A ++ (k, v) :: B) k u = A ++ (k, u) :: B := by
  unfold setT
  rw [if_pos (List.any_eq_true.mpr ⟨(k, v), List.mem_append.mpr (.inr (List.mem_cons_self ..)), by simp⟩), List.map_append, List.map_cons]
  have e : ∀ L : Tl, k ∉ L.map (·.1) → (L.map fun p => if p.1 = k then (p.1, u) else p) = L := fun L h => by
    have : ∀ p, p ∈ L → ¬ p.1 = k := fun p hp z => h (List.mem_map.mpr ⟨p, hp, z⟩)
    exact (List.map_congr_left (g := id) fun q hq => if_neg (this q hq)).trans (List.map_id L)
  rw [e A ha, e B hb]
  simp
theorem putD_t {t : Tl} {k : Int} {v : Kd} (hl : t.length < 1000000) : setSD (some (.od (tlD t))) (.int k) v.enc = some (.od (tlD (setT t k v))) := by
  show (if (tlD t).length < lim then some (SV.od (setK (tlD t) (.inl k) v.enc)) else none) = _
  rw [tlD_length, if_pos (by show _ < 16777216; omega), setK_tlD]
abbrev lTurn : Ss := .cons (.if_ (.bin .eq (.var 3) (.var 4)) (.cons .cont .nil) .nil) (.cons (.if_ (.bin .eq (.ix (.var 3) (.int 0)) (.str 0)) (.cons (.if_ (.bin .isin (.ix (.var 3) (.int 1)) (.call 7 (.cons (.var 4) .nil))) (.cons (.ret .non) .nil) .nil) (.cons (.for_ [5] (.seq (.bif .list (.cons (.var 1) .nil))) (.cons (.putD (1, none) (.var 5) (.call 21 (.cons (.dx (.var 1) (.var 5)) (.cons (.dk1 (.ix (.var 3) (.int 1)) (.var 4)) .nil)))) .nil)) (.cons (.putD (1, none) (.ix (.var 3) (.int 1)) (.var 4)) .nil))) (.cons (.if_ (.bin .ne (.ix (.var 3) (.int 0)) (.ix (.var 4) (.int 0))) (.cons (.ret .non) .nil) (.cons (.asgO 2 (.bin .ladd (.var 2) (.bif .lzip (.cons (.slc (.var 3) (.int 1) .non) (.cons (.slc (.var 4) (.int 1) .non) .nil))))) .nil)) .nil)) .nil)
abbrev lBody : Ss := .cons (.asgT [3, 4] (.pop (2, none))) (.cons (.asg 3 (.call 21 (.cons (.var 3) (.cons (.var 1) .nil)))) (.cons (.asg 4 (.call 21 (.cons (.var 4) (.cons (.var 1) .nil)))) (.cons (.if_ (.bin .ne (.ix (.var 3) (.int 0)) (.str 0)) (.cons (.swap 3 4 (.var 4) (.var 3)) .nil) .nil) lTurn)))
section
variable {w : Nat} {G : Gm} {R : RF} {K : Ks} {pl x3 x4 x5 : SV} {t : Tl} {a b x y : Kd} {rest : List D}
theorem turnL1 (ha : G 21 [.dat a.enc, .dat (.dic (tlD t))] = .ok (a.fill t).enc []) (hb : G 21 [.dat b.enc, .dat (.dic (tlD t))] = .ok (b.fill t).enc []) (e : ori2 (a.fill t) (b.fill t) = (x, y))
    (q : Goes G (exsK w lTurn [pl, .od (tlD t), .ol rest, .dat x.enc, .dat y.enc, x5] K) R) :
    Goes G (exsK w lBody [pl, .od (tlD t), .ol (rest ++ [pairD a b]), x3, x4, x5] K) R := by
  refine go_o (a := (pairD a b, .ol rest)) (pop_app rest _) ?_
  refine go_o (a := [_, _, _, _, _, _]) rfl ?_
  repeat first | (refine go_o (a := [_, _, _, _, _, _]) rfl ?_) | (refine go_call ha ?_) | walk_at "st" | (refine go_un rfl ?_)
  refine go_un (flat_un _) ?_
  repeat first | (refine go_o (a := [_, _, _, _, _, _]) rfl ?_) | (refine go_call hb ?_) | walk_at "st" | (refine go_un rfl ?_)
  refine go_un (flat_un _) ?_
  repeat first | (refine go_o (a := [_, _, _, _, _, _]) rfl ?_) | walk_at "st" | (refine go_un rfl ?_)
  refine go_o (ix_tag _) ?_
  repeat walk_at "st"
  rcases ori2_cases (a.fill t) (b.fill t) with ⟨e1, c⟩ | ⟨e1, c⟩
  · rw [e1] at e
    cases e
    refine go_tt (show (!((a.fill t).tag == 0)) = true by rw [beq_eq_false_iff_ne.mpr c]; rfl) ?_
    refine go_o rfl ?_
    refine go_o rfl ?_
    refine go_o (a := [_, _, _, _, _, _]) rfl ?_
    exact q
  · rw [e1] at e
    cases e
    refine go_ff (show (!((a.fill t).tag == 0)) = false by rw [beq_iff_eq.mpr c]; rfl) ?_
    exact q
theorem turnL_eq (hd : x.dep ≤ 180) (q : Goes G (K.ct [pl, .od (tlD t), .ol rest, .dat x.enc, .dat x.enc, x5]) R) :
    Goes G (exsK w lTurn [pl, .od (tlD t), .ol rest, .dat x.enc, .dat x.enc, x5] K) R := by
  repeat walk_at "st"
  refine go_o (op_eq_enc x x (by omega)) ?_
  refine go_o rfl ?_
  refine go_tt (decide_eq_true rfl) ?_
  exact q
theorem turnL_ne (hd : x.dep ≤ 180) (n : x ≠ y) (q : Goes G (exsK w (.cons (.if_ (.bin .eq (.ix (.var 3) (.int 0)) (.str 0)) (.cons (.if_ (.bin .isin (.ix (.var 3) (.int 1)) (.call 7 (.cons (.var 4) .nil))) (.cons (.ret .non) .nil) .nil) (.cons (.for_ [5] (.seq (.bif .list (.cons (.var 1) .nil))) (.cons (.putD (1, none) (.var 5) (.call 21 (.cons (.dx (.var 1) (.var 5)) (.cons (.dk1 (.ix (.var 3) (.int 1)) (.var 4)) .nil)))) .nil)) (.cons (.putD (1, none) (.ix (.var 3) (.int 1)) (.var 4)) .nil))) (.cons (.if_ (.bin .ne (.ix (.var 3) (.int 0)) (.ix (.var 4) (.int 0))) (.cons (.ret .non) .nil) (.cons (.asgO 2 (.bin .ladd (.var 2) (.bif .lzip (.cons (.slc (.var 3) (.int 1) .non) (.cons (.slc (.var 4) (.int 1) .non) .nil))))) .nil)) .nil)) .nil) [pl, .od (tlD t), .ol rest, .dat x.enc, .dat y.enc, x5] K) R) :
    Goes G (exsK w lTurn [pl, .od (tlD t), .ol rest, .dat x.enc, .dat y.enc, x5] K) R := by
  repeat walk_at "st"
  refine go_o (op_eq_enc x y (by omega)) ?_
  refine go_o rfl ?_
  refine go_ff (decide_eq_false n) ?_
  exact q
theorem fills_loop {i : Int} {rt : D → KS.Env → KS.T} {k : KS.Env → KS.T} (nd : TlNd t) (hl : t.length < 1000000) (hG : ∀ p, p ∈ t → G 21 [.dat p.2.enc, .dat (.dic (tlD [(i, y)]))] = .ok (p.2.fill [(i, y)]).enc [])
    (q : ∀ x5, Goes G (k [pl, .od (tlD (fillsT i y t)), .ol rest, .dat (Kd.any i).enc, .dat y.enc, x5]) R) :
    ∀ (l2 l1 : Tl) (x5 : SV), t = l1 ++ l2 →
    Goes G (forK (fun d ρ2 n b => KS.T.opt (bindT [5] d ρ2) fun ρ3 => exsK w (.cons (.putD (1, none) (.var 5) (.call 21 (.cons (.dx (.var 1) (.var 5)) (.cons (.dk1 (.ix (.var 3) (.int 1)) (.var 4)) .nil)))) .nil) ρ3 ⟨n, rt, b, n⟩) (l2.map fun p => D.int p.1)
      [pl, .od (tlD (fillsT i y l1 ++ l2)), .ol rest, .dat (Kd.any i).enc, .dat y.enc, x5] k) R := by
  intro l2
  induction l2 with
  | nil => intro l1 x5 e; rw [List.append_nil] at e; subst e; rw [List.append_nil]; exact q x5
  | cons p l2 ih =>
    intro l1 x5 e
    obtain ⟨g, v⟩ := p
    have hm : (g, v) ∈ t := by rw [e]; exact List.mem_append.mpr (.inr (List.mem_cons_self ..))
    have nd2 := nd
    unfold TlNd at nd2
    rw [e, List.map_append, List.map_cons, List.nodup_append, List.nodup_cons] at nd2
    have ha : g ∉ (fillsT i y l1).map (·.1) := by
      rw [fillsT_keys]
      exact fun z => nd2.2.2 _ z _ (List.mem_cons_self ..) rfl
    have hb : g ∉ l2.map (·.1) := nd2.2.1.1
    have h1 : getK (tlD (fillsT i y l1 ++ (g, v) :: l2)) (.inl g) = some v.enc := by
      rw [getK_tlD, getT_self (t := fillsT i y l1 ++ (g, v) :: l2) ?_ (g, v) (List.mem_append.mpr (.inr (List.mem_cons_self ..)))]
      · rfl
      · unfold TlNd
        rw [List.map_append, fillsT_keys, List.map_cons, ← List.map_cons (f := fun p : Int × Kd => p.1) (a := (g, v)), ← List.map_append, ← e]
        exact nd
    have hs : setSD (some (.od (tlD (fillsT i y l1 ++ (g, v) :: l2)))) (.int g) (v.fill [(i, y)]).enc = some (.od (tlD (fillsT i y (l1 ++ [(g, v)]) ++ l2))) := by
      rw [putD_t, setT_mid ha hb]
      · have : fillsT i y (l1 ++ [(g, v)]) = fillsT i y l1 ++ [(g, v.fill [(i, y)])] := by unfold fillsT; rw [List.map_append]; rfl
        rw [this, List.append_assoc]
        rfl
      · have : (fillsT i y l1).length = l1.length := by unfold fillsT; rw [List.length_map]
        rw [List.length_append, this, ← List.length_append, ← e]
        exact hl
    have hd : ixDD (.dic (tlD (fillsT i y l1 ++ (g, v) :: l2))) (.int g) = some v.enc := h1
    have hc := hG (g, v) hm
    rw [List.map_cons]
    repeat first | (refine go_o (a := [_, _, _, _, _, _]) rfl ?_) | (refine go_call hc ?_) | (refine go_o hs ?_) | (refine go_o hd ?_) | walk_at "st" | (refine go_un rfl ?_)
    exact ih (l1 ++ [(g, v)]) (.dat (.int g)) (by rw [e, List.append_assoc]; rfl)
theorem turnL_occ {i : Int} (n : Kd.any i ≠ y) (hg : G 7 [.dat y.enc] = .ok (.lst (intsD y.gapsL)) []) (hi : i ∈ y.gapsL) (q : Goes G (K.rt .non [pl, .od (tlD t), .ol rest, .dat (Kd.any i).enc, .dat y.enc, x5]) R) :
    Goes G (exsK w lTurn [pl, .od (tlD t), .ol rest, .dat (Kd.any i).enc, .dat y.enc, x5] K) R := by
  refine turnL_ne (by show 0 ≤ _; omega) n ?_
  repeat first | (refine go_o (a := [_, _, _, _, _, _]) rfl ?_) | (refine go_call hg ?_) | (refine go_o (op_in_ints i y.gapsL) ?_) | walk_at "st"
  refine go_tt (decide_eq_true hi) ?_
  exact q
theorem turnL_bind {i : Int} (n : Kd.any i ≠ y) (nd : TlNd t) (hl : t.length < 1000000 - 1) (hn : getT t i = none) (hg : G 7 [.dat y.enc] = .ok (.lst (intsD y.gapsL)) []) (hi : i ∉ y.gapsL) (hG : ∀ p, p ∈ t → G 21 [.dat p.2.enc, .dat (.dic (tlD [(i, y)]))] = .ok (p.2.fill [(i, y)]).enc [])
    (q : ∀ x5, Goes G (K.nx [pl, .od (tlD (grow t i y)), .ol rest, .dat (Kd.any i).enc, .dat y.enc, x5]) R) :
    Goes G (exsK w lTurn [pl, .od (tlD t), .ol rest, .dat (Kd.any i).enc, .dat y.enc, x5] K) R := by
  have hs : setSD (some (.od (tlD (fillsT i y t)))) (.int i) y.enc = some (.od (tlD (grow t i y))) := by
    rw [put_new (by rw [fillsT_keys]; exact getT_none.mp hn) (by unfold fillsT; rw [List.length_map]; omega)]
    rfl
  refine turnL_ne (by show 0 ≤ _; omega) n ?_
  repeat first | (refine go_o (a := [_, _, _, _, _, _]) rfl ?_) | (refine go_call hg ?_) | (refine go_o (op_in_ints i y.gapsL) ?_) | (refine go_ff (decide_eq_false hi) ?_) | walk_at "st" | (refine go_un rfl ?_)
  rw [keys_tlD]
  refine fills_loop (w := w) nd (by omega) hG (fun x5 => ?_) t [] x5 rfl
  repeat first | (refine go_o (a := [_, _, _, _, _, _]) rfl ?_) | (refine go_o hs ?_) | walk_at "st"
  exact q _
theorem turnL_clash (hd : x.dep ≤ 180) (n : x.tag ≠ 0) (c : x.tag ≠ y.tag) (q : Goes G (K.rt .non [pl, .od (tlD t), .ol rest, .dat x.enc, .dat y.enc, x5]) R) :
    Goes G (exsK w lTurn [pl, .od (tlD t), .ol rest, .dat x.enc, .dat y.enc, x5] K) R := by
  refine turnL_ne hd (fun e => c (by rw [e])) ?_
  repeat walk_at "st"
  refine go_o (ix_tag x) ?_
  repeat walk_at "st"
  refine go_ff (show (x.tag == 0) = false from beq_eq_false_iff_ne.mpr n) ?_
  repeat walk_at "st"
  refine go_o (ix_tag x) ?_
  repeat walk_at "st"
  refine go_o (ix_tag y) ?_
  repeat walk_at "st"
  refine go_tt (show (!(x.tag == y.tag)) = true by rw [beq_eq_false_iff_ne.mpr c]; rfl) ?_
  exact q
theorem ladd_one {xs : List D} {a : D} (h : xs.length + 2 ≤ lim) : opD .ladd (.lst xs) (.lst [a]) = some (.lst (xs ++ [a])) := if_pos (by show xs.length + 1 ≤ _; omega)
theorem ladd_two {xs : List D} {a b : D} (h : xs.length + 2 ≤ lim) : opD .ladd (.lst xs) (.lst [a, b]) = some (.lst (xs ++ [a] ++ [b])) := by
  show (if xs.length + 2 ≤ lim then some (D.lst (xs ++ [a, b])) else none) = _
  rw [if_pos h, List.append_assoc]
  rfl
theorem turnL_list {u v : Kd} (hd : u.dep ≤ 179) (n : u ≠ v) (hl : rest.length + 2 ≤ lim) (q : Goes G (K.nx [pl, .od (tlD t), .ol (rest ++ [pairD u v]), .dat (Kd.list u).enc, .dat (Kd.list v).enc, x5]) R) :
    Goes G (exsK w lTurn [pl, .od (tlD t), .ol rest, .dat (Kd.list u).enc, .dat (Kd.list v).enc, x5] K) R := by
  refine turnL_ne (by show u.dep + 1 ≤ _; omega) (fun e => n (by injection e)) ?_
  repeat first | (refine go_o (a := [_, _, _, _, _, _]) rfl ?_) | (refine go_o (ladd_one hl) ?_) | walk_at "st" | (refine go_un rfl ?_)
  exact q
theorem turnL_two {u1 u2 v1 v2 : Kd} (c : x = .fn u1 u2 ∧ y = .fn v1 v2 ∨ x = .pair u1 u2 ∧ y = .pair v1 v2) (hd : x.dep ≤ 180) (n : x ≠ y) (hl : rest.length + 2 ≤ lim) (q : Goes G (K.nx [pl, .od (tlD t), .ol (rest ++ [pairD u1 v1] ++ [pairD u2 v2]), .dat x.enc, .dat y.enc, x5]) R) :
    Goes G (exsK w lTurn [pl, .od (tlD t), .ol rest, .dat x.enc, .dat y.enc, x5] K) R := by
  refine turnL_ne (by omega) n ?_
  rcases c with ⟨rfl, rfl⟩ | ⟨rfl, rfl⟩
  · repeat first | (refine go_o (a := [_, _, _, _, _, _]) rfl ?_) | (refine go_o (ladd_two hl) ?_) | walk_at "st" | (refine go_un rfl ?_)
    exact q
  · repeat first | (refine go_o (a := [_, _, _, _, _, _]) rfl ?_) | (refine go_o (ladd_two hl) ?_) | walk_at "st" | (refine go_un rfl ?_)
    exact q
end
end KS

set_option Elab.async false
set_option linter.all false
set_option maxRecDepth 100000
/-! KeepG: two kinds at most three deep, whether or not anything makes them the same: how deep the things get that are come to. -/
namespace KS
open PySem L2
/-- what t fills something small with -/
def Good (t : Tl) (x : Kd) : Prop := ∃ s : Kd, s.dep ≤ 3 ∧ x = s.fill t ∧ ∀ g, s = .any g → getT t g = none
theorem good_of {t : Tl} (h : ∀ p, p ∈ t → Good t p.2) {s : Kd} (d : s.dep ≤ 3) : Good t (s.fill t) := by
  by_cases e : ∃ g, s = .any g ∧ getT t g ≠ none
  · obtain ⟨g, rfl, n⟩ := e
    cases q : getT t g with
    | none => exact (n q).elim
    | some v =>
      have : (Kd.any g).fill t = v := by show (getT t g).getD (.any g) = v; rw [q]; rfl
      rw [this]
      exact h _ (getT_in q)
  · refine ⟨s, d, rfl, fun g hg => ?_⟩
    cases q : getT t g with
    | none => rfl
    | some v => exact (e ⟨g, hg, by rw [q]; exact fun z => nomatch z⟩).elim
theorem dep_lt (θ : Int → Kd) {i : Int} : ∀ y : Kd, i ∈ y.gapsL → y ≠ Kd.any i → (θ i).dep < (y.app θ).dep := by
  intro y
  cases y with
  | fn a b => intro h _; show _ < max _ _ + 1; rcases mem2.mp h with h | h; have := dep_gap θ i a h; omega; have := dep_gap θ i b h; omega
  | pair a b => intro h _; show _ < max _ _ + 1; rcases mem2.mp h with h | h; have := dep_gap θ i a h; omega; have := dep_gap θ i b h; omega
  | list a => intro h _; exact Nat.lt_succ_of_le (dep_gap θ i a (mem1.mp h))
  | any j => intro h n; rcases List.mem_singleton.mp h with rfl; exact (n rfl).elim
  | _ => intro h; exact nomatch h
theorem max_gap (θ : Int → Kd) : ∀ l : List Int, (∀ g, g ∈ l → (θ g).dep = 0) ∨ ∃ h, h ∈ l ∧ 0 < (θ h).dep ∧ ∀ g, g ∈ l → (θ g).dep ≤ (θ h).dep
  | [] => .inl fun _ h => nomatch h
  | x :: l => by
    rcases max_gap θ l with e | ⟨h, h1, h2, h3⟩
    · by_cases z : (θ x).dep = 0
      · left
        intro g hg
        rcases List.mem_cons.mp hg with rfl | hg
        · exact z
        · exact e g hg
      · right
        refine ⟨x, List.mem_cons_self .., by omega, fun g hg => ?_⟩
        rcases List.mem_cons.mp hg with rfl | hg
        · exact Nat.le_refl _
        · rw [e g hg]; exact Nat.zero_le _
    · right
      by_cases z : (θ x).dep ≤ (θ h).dep
      · refine ⟨h, List.mem_cons_of_mem _ h1, h2, fun g hg => ?_⟩
        rcases List.mem_cons.mp hg with rfl | hg
        · exact z
        · exact h3 g hg
      · refine ⟨x, List.mem_cons_self .., by omega, fun g hg => ?_⟩
        rcases List.mem_cons.mp hg with rfl | hg
        · exact Nat.le_refl _
        · have := h3 g hg; omega
theorem good_step {t : Tl} {x : Kd} (h : Good t x) : x.dep ≤ 3 ∨ ∃ q, q ∈ t ∧ x.dep ≤ q.2.dep + 3 ∧ q.2.dep < x.dep := by
  obtain ⟨s, d, rfl, n⟩ := h
  rcases max_gap (fnT t) s.gapsL with e | ⟨j, h1, h2, h3⟩
  · left
    rw [fill_app]
    have := app_dep (θ := fnT t) (n := 0) s fun g hg => by rw [e g hg]; exact Nat.le_refl _
    omega
  · right
    cases q : getT t j with
    | none =>
      unfold fnT at h2
      rw [q] at h2
      exact (Nat.lt_irrefl _ h2).elim
    | some v =>
      have e : fnT t j = v := by unfold fnT; rw [q]; rfl
      refine ⟨(j, v), getT_in q, ?_, ?_⟩
      · rw [fill_app]
        have := app_dep (θ := fnT t) (n := v.dep) s fun g hg => by have := h3 g hg; rw [e] at this; exact this
        show _ ≤ v.dep + 3
        omega
      · show v.dep < _
        rw [fill_app, ← e]
        refine dep_lt (fnT t) s h1 fun z => ?_
        rw [n j z] at q
        cases q
theorem filter_lt {α : Type} {P Q : α → Bool} (h : ∀ x, P x = true → Q x = true) : ∀ {l : List α}, (l.filter P).length ≤ (l.filter Q).length ∧ ((∃ x, x ∈ l ∧ Q x = true ∧ P x = false) → (l.filter P).length < (l.filter Q).length)
  | [] => ⟨Nat.le_refl _, fun ⟨_, z, _⟩ => nomatch z⟩
  | a :: l => by
    obtain ⟨i1, i2⟩ := filter_lt h (l := l)
    cases p : P a with
    | true =>
      rw [List.filter_cons_of_pos p, List.filter_cons_of_pos (h a p), List.length_cons, List.length_cons]
      refine ⟨by omega, fun ⟨x, h1, h2, h3⟩ => ?_⟩
      rcases List.mem_cons.mp h1 with rfl | h1
      · rw [p] at h3; cases h3
      · have := i2 ⟨x, h1, h2, h3⟩; omega
    | false =>
      rw [List.filter_cons_of_neg (by rw [p]; exact fun z => nomatch z)]
      cases q : Q a with
      | true =>
        rw [List.filter_cons_of_pos q, List.length_cons]
        exact ⟨by omega, fun _ => by omega⟩
      | false =>
        rw [List.filter_cons_of_neg (by rw [q]; exact fun z => nomatch z)]
        refine ⟨i1, fun ⟨x, h1, h2, h3⟩ => ?_⟩
        rcases List.mem_cons.mp h1 with rfl | h1
        · rw [q] at h2; cases h2
        · exact i2 ⟨x, h1, h2, h3⟩
theorem dep_told {t : Tl} (h : ∀ p, p ∈ t → Good t p.2) : ∀ p, p ∈ t → p.2.dep ≤ 3 * t.length := by
  have key : ∀ (n : Nat) (p : Int × Kd), p ∈ t → p.2.dep = n → p.2.dep ≤ 3 * (t.filter fun q => decide (q.2.dep ≤ p.2.dep)).length := by
    intro n
    induction n using Nat.strongRecOn with
    | ind n ih =>
      intro p hp e
      have me : 0 < (t.filter fun q => decide (q.2.dep ≤ p.2.dep)).length := List.length_pos_of_mem (List.mem_filter.mpr ⟨hp, by simp⟩)
      rcases good_step (h p hp) with d | ⟨q, hq, d1, d2⟩
      · omega
      · have := ih q.2.dep (by omega) q hq rfl
        have lt := (filter_lt (P := fun r : Int × Kd => decide (r.2.dep ≤ q.2.dep)) (Q := fun r => decide (r.2.dep ≤ p.2.dep)) (fun x hx => by
          have := of_decide_eq_true hx
          exact decide_eq_true (by omega)) (l := t)).2 ⟨p, hp, by simp, by simp; omega⟩
        omega
  intro p hp
  have := key _ p hp rfl
  have le := List.length_filter_le (fun q : Int × Kd => decide (q.2.dep ≤ p.2.dep)) t
  omega
structure InvG (V : List Int) (t : Tl) (a b : Kd) : Prop where
  wa : Good t (a.fill t)
  wb : Good t (b.fill t)
  ga : ∀ g, g ∈ a.gapsL → g ∈ V
  gb : ∀ g, g ∈ b.gapsL → g ∈ V
  ts : ∀ p, p ∈ t → p.1 ∈ V ∧ ∀ g, g ∈ p.2.gapsL → g ∈ V
  vs : ∀ p, p ∈ t → Good t p.2
theorem gaps_fill2 {t : Tl} {V : List Int} {a : Kd} (ga : ∀ g, g ∈ a.gapsL → g ∈ V) (ts : ∀ p, p ∈ t → p.1 ∈ V ∧ ∀ g, g ∈ p.2.gapsL → g ∈ V) : ∀ g, g ∈ (a.fill t).gapsL → g ∈ V := by
  rw [fill_app]
  refine gaps_app a fun g hg j hj => ?_
  unfold fnT at hj
  cases e : getT t g with
  | some v => rw [e] at hj; exact (ts _ (getT_in e)).2 j hj
  | none => rw [e] at hj; rcases List.mem_singleton.mp hj with rfl; exact ga _ hg
theorem self_fill {t : Tl} {u : Kd} (h : ∀ g, g ∈ u.gapsL → getT t g = none) : u.fill t = u := by
  rw [fill_app]
  refine app_id fun g hg => ?_
  unfold fnT
  rw [h g hg]; rfl
/-- good stays good when told grows -/
theorem Good.grow {t : Tl} {i : Int} {x y : Kd} (h : Good t x) (hi : getT t i = none) (gy : Good t y) (ny : Kd.any i ≠ y) (iy : i ∉ y.gapsL) : Good (KS.grow t i y) (x.fill [(i, y)]) ∧ Good (KS.grow t i y) y := by
  have yy : Good (KS.grow t i y) y := by
    obtain ⟨s, d, e, n⟩ := gy
    refine ⟨s, d, ?_, fun g hg => ?_⟩
    · rw [fill_grow hi, ← e]
      refine (self_fill fun g hg => ?_).symm
      rw [getT_one, if_neg]
      exact fun z => iy (by rw [z]; exact hg)
    · rw [getT_grow hi, n g hg]
      show (if i = g then some y else none) = none
      rw [if_neg]
      intro z
      apply ny
      rw [e, hg, z]
      show _ = (getT t g).getD (.any g)
      rw [n g hg]; rfl
  refine ⟨?_, yy⟩
  obtain ⟨s, d, rfl, n⟩ := h
  rw [← fill_grow hi]
  by_cases e : s = .any i
  · subst e
    have : (Kd.any i).fill (KS.grow t i y) = y := by
      show (getT _ i).getD (.any i) = y
      rw [getT_grow hi, hi]
      show (if i = i then some y else none).getD (.any i) = y
      rw [if_pos rfl]; rfl
    rw [this]
    exact yy
  · refine ⟨s, d, rfl, fun g hg => ?_⟩
    rw [getT_grow hi, n g hg]
    show (if i = g then some y else none) = none
    rw [if_neg]
    rintro rfl
    exact e hg
theorem keepsG {o : Kd → Kd → Kd × Kd} (O : Ori o) {V : List Int} {E : Nat} (hE : 3 + 3 * V.length ≤ E) : Keeps o E V (InvG V) := by
  have len : ∀ {t : Tl}, TOk t → (∀ p, p ∈ t → p.1 ∈ V ∧ ∀ g, g ∈ p.2.gapsL → g ∈ V) → t.length ≤ V.length := fun {t} ok ts => by
    have := sub_length ok.nd (l2 := V) fun x hx => by
      obtain ⟨p, hp, rfl⟩ := List.mem_map.mp hx
      exact (ts p hp).1
    rwa [List.length_map] at this
  have dep : ∀ {t : Tl} {x : Kd}, t.length ≤ V.length → (∀ p, p ∈ t → Good t p.2) → Good t x → x.dep ≤ E := fun {t x} l vs g => by
    rcases good_step g with d | ⟨q, hq, d, _⟩
    · omega
    · have := dep_told vs q hq
      omega
  have sz : ∀ t a b, TOk t → InvG V t a b → Sz E V t a b := fun t a b ok i => by
    have l := len ok i.ts
    have da := dep l i.vs i.wa
    have db := dep l i.vs i.wb
    have e1 := dep_app (fnT t) a
    have e2 := dep_app (fnT t) b
    rw [← fill_app] at e1 e2
    exact ⟨ok, by omega, by omega, da, db, gaps_fill2 i.ga i.ts, gaps_fill2 i.gb i.ts, fun p hp => ⟨(i.ts p hp).1, dep l i.vs (i.vs p hp), (i.ts p hp).2⟩⟩
  have ori1 : ∀ {t a b x y}, TOk t → InvG V t a b → o (a.fill t) (b.fill t) = (x, y) → Good t x ∧ Good t y ∧ (∀ g, g ∈ x.gapsL → g ∈ V ∧ getT t g = none) ∧ ∀ g, g ∈ y.gapsL → g ∈ V ∧ getT t g = none := fun {t a b x y} ok i e => by
    have s := sz t a b ok i
    rcases O.mem e with ⟨rfl, rfl⟩ | ⟨rfl, rfl⟩
    · exact ⟨i.wa, i.wb, fun g hg => ⟨s.ga g hg, ok.filled _ g hg⟩, fun g hg => ⟨s.gb g hg, ok.filled _ g hg⟩⟩
    · exact ⟨i.wb, i.wa, fun g hg => ⟨s.gb g hg, ok.filled _ g hg⟩, fun g hg => ⟨s.ga g hg, ok.filled _ g hg⟩⟩
  -- a part of a good one is good
  have one : ∀ {t : Tl} {u : Kd}, (∀ p, p ∈ t → Good t p.2) → Good t (.list u) → Good t u := fun {t u} vs g => by
    obtain ⟨s, d, e, n⟩ := g
    cases s with
    | list s =>
      injection e with e
      rw [e]
      exact good_of vs (by have : s.dep + 1 ≤ 3 := d; omega)
    | any g => have e : Kd.list u = (getT t g).getD (.any g) := e; rw [n g rfl] at e; exact nomatch e
    | _ => exact nomatch e
  have two : ∀ {t : Tl} {u v : Kd}, (∀ p, p ∈ t → Good t p.2) → (Good t (.fn u v) ∨ Good t (.pair u v)) → Good t u ∧ Good t v := fun {t u v} vs g => by
    rcases g with ⟨s, d, e, n⟩ | ⟨s, d, e, n⟩
    · cases s with
      | fn s r =>
        injection e with e f
        rw [e, f]
        have : max s.dep r.dep + 1 ≤ 3 := d
        exact ⟨good_of vs (by omega), good_of vs (by omega)⟩
      | any g => have e : Kd.fn u v = (getT t g).getD (.any g) := e; rw [n g rfl] at e; exact nomatch e
      | _ => exact nomatch e
    · cases s with
      | pair s r =>
        injection e with e f
        rw [e, f]
        have : max s.dep r.dep + 1 ≤ 3 := d
        exact ⟨good_of vs (by omega), good_of vs (by omega)⟩
      | any g => have e : Kd.pair u v = (getT t g).getD (.any g) := e; rw [n g rfl] at e; exact nomatch e
      | _ => exact nomatch e
  have again : ∀ {t : Tl} {u : Kd}, (∀ g, g ∈ u.gapsL → g ∈ V ∧ getT t g = none) → Good t u → Good t (u.fill t) := fun {t u} h g => by
    rw [self_fill fun g hg => (h g hg).2]
    exact g
  refine ⟨sz, fun t a b u v ok i e => ?_, fun t a b x y u1 u2 v1 v2 ok i e c => ?_, fun t a b j y c d ok i e n hj ic => ?_⟩
  · obtain ⟨q1, q2, q3, q4⟩ := ori1 ok i e
    have z1 : ∀ g, g ∈ u.gapsL → g ∈ V ∧ getT t g = none := fun g hg => q3 g (mem1.mpr hg)
    have z2 : ∀ g, g ∈ v.gapsL → g ∈ V ∧ getT t g = none := fun g hg => q4 g (mem1.mpr hg)
    exact ⟨again z1 (one i.vs q1), again z2 (one i.vs q2), fun g hg => (z1 g hg).1, fun g hg => (z2 g hg).1, i.ts, i.vs⟩
  · obtain ⟨q1, q2, q3, q4⟩ := ori1 ok i e
    have g1 : Good t u1 ∧ Good t u2 := by rcases c with ⟨rfl, _⟩ | ⟨rfl, _⟩; exact two i.vs (.inl q1); exact two i.vs (.inr q1)
    have g2 : Good t v1 ∧ Good t v2 := by rcases c with ⟨_, rfl⟩ | ⟨_, rfl⟩; exact two i.vs (.inl q2); exact two i.vs (.inr q2)
    have z1 : ∀ g, g ∈ u1.gapsL → g ∈ V ∧ getT t g = none := fun g hg => q3 g (by rcases c with ⟨rfl, _⟩ | ⟨rfl, _⟩ <;> exact mem2.mpr (.inl hg))
    have z2 : ∀ g, g ∈ u2.gapsL → g ∈ V ∧ getT t g = none := fun g hg => q3 g (by rcases c with ⟨rfl, _⟩ | ⟨rfl, _⟩ <;> exact mem2.mpr (.inr hg))
    have z3 : ∀ g, g ∈ v1.gapsL → g ∈ V ∧ getT t g = none := fun g hg => q4 g (by rcases c with ⟨_, rfl⟩ | ⟨_, rfl⟩ <;> exact mem2.mpr (.inl hg))
    have z4 : ∀ g, g ∈ v2.gapsL → g ∈ V ∧ getT t g = none := fun g hg => q4 g (by rcases c with ⟨_, rfl⟩ | ⟨_, rfl⟩ <;> exact mem2.mpr (.inr hg))
    exact ⟨⟨again z1 g1.1, again z3 g2.1, fun g hg => (z1 g hg).1, fun g hg => (z3 g hg).1, i.ts, i.vs⟩, ⟨again z2 g1.2, again z4 g2.2, fun g hg => (z2 g hg).1, fun g hg => (z4 g hg).1, i.ts, i.vs⟩⟩
  · obtain ⟨q1, q2, q3, q4⟩ := ori1 ok i e
    have f := (sz t a b ok i).free O e
    refine ⟨?_, ?_, ic.ga, ic.gb, fun p hp => ?_, fun p hp => ?_⟩
    · rw [fill_grow f.1]; exact (ic.wa.grow f.1 q2 n hj).1
    · rw [fill_grow f.1]; exact (ic.wb.grow f.1 q2 n hj).1
    · rcases List.mem_append.mp hp with hp | hp
      · obtain ⟨q, hq, rfl⟩ := List.mem_map.mp hp
        refine ⟨(ic.ts q hq).1, fun g hg => ?_⟩
        rcases gaps_one q.2 g hg with z | z
        · exact (ic.ts q hq).2 g z.1
        · exact (q4 g z).1
      · rcases List.mem_singleton.mp hp with rfl
        exact ⟨(q3 j (List.mem_singleton.mpr rfl)).1, fun g hg => (q4 g hg).1⟩
    · rcases List.mem_append.mp hp with hp | hp
      · obtain ⟨q, hq, rfl⟩ := List.mem_map.mp hp
        exact ((ic.vs q hq).grow f.1 q2 n hj).1
      · rcases List.mem_singleton.mp hp with rfl
        exact (q2.grow f.1 q2 n hj).2
/-- any two kinds at most three deep -/
theorem un_g {o : Kd → Kd → Kd × Kd} (O : Ori o) {V : List Int} {a b : Kd} {E : Nat} (hE : 3 + 3 * V.length ≤ E) (da : a.dep ≤ 3) (db : b.dep ≤ 3) (ga : ∀ g, g ∈ a.gapsL → g ∈ V) (gb : ∀ g, g ∈ b.gapsL → g ∈ V) :
    ∃ r, Un o E V (V.length * (E + 1) + E + 1) (2 ^ (V.length * (E + 1) + E + 1) - 1) [] a b r ∧ ∀ t', r = some t' → Sz E V t' a b ∧ a.fill t' = b.fill t' := by
  have g0 : ∀ k : Kd, k.dep ≤ 3 → Good [] (k.fill []) := fun k h => ⟨k, h, rfl, fun _ _ => rfl⟩
  have i : InvG V [] a b := ⟨g0 a da, g0 b db, ga, gb, (fun _ h => nomatch h), (fun _ h => nomatch h)⟩
  have K := keepsG O hE
  have s := K.sz [] a b .nil i
  have hu : unb V [] ≤ V.length := List.length_filter_le _ _
  have hm := Nat.mul_le_mul_right (E + 1) hu
  obtain ⟨r, un, h⟩ := un_ex O K (V.length * (E + 1) + E) [] a b E .nil i s.fa s.fb (by omega)
  refine ⟨r, un, fun t' e => ?_⟩
  obtain ⟨h1, _, h2⟩ := h t' e
  exact ⟨K.sz _ _ _ h1 (h2 _ _ i), (un.same O t' e).2.2⟩
end KS

set_option Elab.async false
set_option linter.all false
set_option maxRecDepth 100000
/-! SolveX: the law's solving, whole. -/
namespace KS
open PySem L2
local macro_rules | `(tactic| walk_at "st") => `(tactic| first | (refine go_o rfl ?_) | (refine go_tt rfl ?_) | (refine go_ff rfl ?_))
abbrev lCond : KS.Env → (Bool → KS.Env → KS.T) → KS.T := fun ρ1 k => evK true true (.var 2) ρ1 fun d ρ2 => ofK (truth d) ρ2 k
abbrev lStep (w : Nat) (rt : D → KS.Env → KS.T) : KS.Env → (KS.Env → KS.T) → (KS.Env → KS.T) → KS.T := fun ρ1 n b => exsK w lBody ρ1 ⟨n, rt, b, n⟩
section
variable {w : Nat} {R : RF} {pl : SV}
theorem lwhile_more {G : Gm} {rt k} {W : Nat} {rest : List D} {p : D} {x3 x4 x5 dt : SV} (q : Goes G (exsK w lBody [pl, dt, .ol (rest ++ [p]), x3, x4, x5] ⟨fun ρ2 => whileK lCond (lStep w rt) W ρ2 k, rt, k, fun ρ2 => whileK lCond (lStep w rt) W ρ2 k⟩) R) :
    Goes G (whileK lCond (lStep w rt) (W + 1) [pl, dt, .ol (rest ++ [p]), x3, x4, x5] k) R := by
  refine go_o (a := .lst (rest ++ [p])) rfl ?_
  refine go_o (truth_app rest p) ?_
  refine go_tt rfl ?_
  exact q
theorem lwhile_end {G : Gm} {rt k} {W : Nat} {x3 x4 x5 dt : SV} (q : Goes G (k [pl, dt, .ol [], x3, x4, x5]) R) :
    Goes G (whileK lCond (lStep w rt) (W + 1) [pl, dt, .ol [], x3, x4, x5] k) R := by
  refine go_o (a := .lst []) rfl ?_
  refine go_o (a := false) rfl ?_
  refine go_ff rfl ?_
  exact q
theorem oriL_dep {E V t a b x y} (s : Sz E V t a b) (e : ori2 (a.fill t) (b.fill t) = (x, y)) : x.dep ≤ E ∧ y.dep ≤ E := by
  have := s.fa
  have := s.fb
  rcases oriL.mem e with ⟨rfl, rfl⟩ | ⟨rfl, rfl⟩ <;> exact ⟨by assumption, by assumption⟩
theorem solve_loop {E V h wN t a b r} (u : Un ori2 E V h wN t a b r) (hE : E ≤ 100) (hV : V.length ≤ 100000) (n : Nat) {rt k} : ∀ (rest : List D) (W : Nat) (x3 x4 x5 : SV), rest.length + 2 * h + 10 ≤ lim → wN ≤ W →
    (match r with
      | none => ∀ ρ', Goes (sem PD w (n + E + 2)) (rt .non ρ') R
      | some t' => ∀ (W' : Nat) (x3 x4 x5 : SV), W ≤ W' + wN → Goes (sem PD w (n + E + 2)) (whileK lCond (lStep w rt) W' [pl, .od (tlD t'), .ol rest, x3, x4, x5] k) R) →
    Goes (sem PD w (n + E + 2)) (whileK lCond (lStep w rt) W [pl, .od (tlD t), .ol (rest ++ [pairD a b]), x3, x4, x5] k) R := by
  have hg : ∀ {t a b x y}, Sz E V t a b → ori2 (a.fill t) (b.fill t) = (x, y) → sem PD w (n + E + 2) 7 [.dat y.enc] = .ok (.lst (intsD y.gapsL)) [] := fun {t a b x y} s e => by
    have h1 := s.gapsN oriL e
    have h2 := (oriL_dep s e).2
    exact lgapsN y _ (by omega) (by omega)
  have f0 : ∀ (k : Kd) (t : Tl), k.dep ≤ E → sem PD w (n + E + 2) 21 [.dat k.enc, .dat (.dic (tlD t))] = .ok (k.fill t).enc [] := fun k t h => filled21 t k _ (by omega)
  induction u with
  | eq s hw e =>
    intro rest W x3 x4 x5 _ hW q
    obtain ⟨W, rfl⟩ : ∃ m, W = m + 1 := ⟨W - 1, by omega⟩
    have d := oriL_dep s e
    refine lwhile_more (turnL1 (f0 _ _ s.da) (f0 _ _ s.db) e (turnL_eq (by omega) ?_))
    exact q W _ _ _ (by omega)
  | occ s hw e m i =>
    intro rest W x3 x4 x5 _ hW q
    obtain ⟨W, rfl⟩ : ∃ m, W = m + 1 := ⟨W - 1, by omega⟩
    exact lwhile_more (turnL1 (f0 _ _ s.da) (f0 _ _ s.db) e (turnL_occ m (hg s e) i (q _)))
  | bind s hw e m i =>
    intro rest W x3 x4 x5 _ hW q
    obtain ⟨W, rfl⟩ : ∃ m, W = m + 1 := ⟨W - 1, by omega⟩
    have tl := s.len
    refine lwhile_more (turnL1 (f0 _ _ s.da) (f0 _ _ s.db) e (turnL_bind m s.ok.nd (by omega) (s.free oriL e).1 (hg s e) i (fun p hp => f0 _ _ (s.ts p hp).2.1) fun x5 => ?_))
    exact q W _ _ _ (by omega)
  | clash s hw e m i =>
    intro rest W x3 x4 x5 _ hW q
    obtain ⟨W, rfl⟩ : ∃ m, W = m + 1 := ⟨W - 1, by omega⟩
    have d := oriL_dep s e
    exact lwhile_more (turnL1 (f0 _ _ s.da) (f0 _ _ s.db) e (turnL_clash (by omega) m i (q _)))
  | @d1 h w0 w1 t a b u v r s hw e m _ ih =>
    intro rest W x3 x4 x5 hr hW q
    obtain ⟨W, rfl⟩ : ∃ m, W = m + 1 := ⟨W - 1, by omega⟩
    have d := oriL_dep s e
    have d1 : u.dep + 1 ≤ E := d.1
    refine lwhile_more (turnL1 (f0 _ _ s.da) (f0 _ _ s.db) e (turnL_list (by omega) m (by omega) ?_))
    refine ih rest W _ _ _ (by omega) (by omega) ?_
    cases r with
    | none => exact q
    | some t' => exact fun W' _ _ _ hW' => q W' _ _ _ (by omega)
  | d2n s hw e c m _ ih =>
    intro rest W x3 x4 x5 hr hW q
    obtain ⟨W, rfl⟩ : ∃ m, W = m + 1 := ⟨W - 1, by omega⟩
    have d := oriL_dep s e
    refine lwhile_more (turnL1 (f0 _ _ s.da) (f0 _ _ s.db) e (turnL_two c (by omega) m (by omega) ?_))
    exact ih _ W _ _ _ (by rw [List.length_append]; show rest.length + 1 + _ + _ ≤ _; omega) (by omega) q
  | @d2 h w0 w1 w2 t t1 a b x y u1 u2 v1 v2 r s hw e c m _ _ i1 i2 =>
    intro rest W x3 x4 x5 hr hW q
    obtain ⟨W, rfl⟩ : ∃ m, W = m + 1 := ⟨W - 1, by omega⟩
    have d := oriL_dep s e
    refine lwhile_more (turnL1 (f0 _ _ s.da) (f0 _ _ s.db) e (turnL_two c (by omega) m (by omega) ?_))
    refine i1 _ W _ _ _ (by rw [List.length_append]; show rest.length + 1 + _ + _ ≤ _; omega) (by omega) ?_
    intro W1 y3 y4 y5 hW1
    refine i2 rest W1 _ _ _ (by omega) (by omega) ?_
    cases r with
    | none => exact q
    | some t' => exact fun W' _ _ _ hW' => q W' _ _ _ (by omega)
/-- how it ends -/
def unL : Option Tl → RF
  | none => .ok .non []
  | some t => .ok (.dic (tlD t)) []
theorem solve_un {E V h wN a b r} (u : Un ori2 E V h wN [] a b r) (hE : E ≤ 100) (hV : V.length ≤ 100000) (n : Nat) (hh : h ≤ 1000000) (hw : wN + 1 ≤ w) : sem PD w (n + E + 3) 27 [.dat (.lst [.tup [a.enc, b.enc]])] = unL r := by
  refine sem_go (d := d27) rfl ?_
  repeat first | (refine go_o (a := [_, _, _, _, _, _]) rfl ?_) | (refine go_un rfl ?_) | walk_at "st"
  refine solve_loop (w := w) (rt := (finK [false]).rt) u hE hV n [] w _ _ _ (by show 0 + _ + _ ≤ 16777216; omega) (by omega) ?_
  cases r with
  | none =>
    intro ρ'
    refine go_o (a := []) rfl ?_
    exact go_ok rfl
  | some t' =>
    intro W' y3 y4 y5 hW'
    obtain ⟨W1, rfl⟩ : ∃ m, W' = m + 1 := ⟨W' - 1, by omega⟩
    refine lwhile_end ?_
    repeat walk_at "st"
    exact go_ok rfl
end
end KS

set_option Elab.async false
set_option linter.all false
set_option maxRecDepth 100000
namespace KS
open PySem L2
def Kd.occ : Kd → List Int
  | .fn a b => a.occ ++ b.occ
  | .pair a b => a.occ ++ b.occ
  | .list a => a.occ
  | .any k => [k]
  | _ => []
theorem occ_gaps : ∀ k : Kd, ∀ i, i ∈ k.occ → i ∈ k.gapsL := by
  intro k
  induction k with
  | fn a b h1 h2 =>
    intro i h
    rcases List.mem_append.mp h with h | h
    · exact mem_extL.mpr (.inl (mem_extL.mpr (.inr (h1 i h))))
    · exact mem_extL.mpr (.inr (h2 i h))
  | pair a b h1 h2 =>
    intro i h
    rcases List.mem_append.mp h with h | h
    · exact mem_extL.mpr (.inl (mem_extL.mpr (.inr (h1 i h))))
    · exact mem_extL.mpr (.inr (h2 i h))
  | list a h => intro i hi; exact mem_extL.mpr (.inr (h i hi))
  | any k => intro i h; exact h
  | _ => intro i h; exact (nomatch h)
theorem pairs_ren (σ τ : Int → Int) : ∀ k : Kd, (k.ren σ).pairs (k.ren τ) = some (k.occ.map fun g => (σ g, .any (τ g))) := by
  intro k
  induction k with
  | fn a b h1 h2 => show (match (a.ren σ).pairs (a.ren τ) with | none => none | some x => ((b.ren σ).pairs (b.ren τ)).map (x ++ ·)) = _; rw [h1, h2]; show some (_ ++ _) = _; rw [← List.map_append]; rfl
  | pair a b h1 h2 => show (match (a.ren σ).pairs (a.ren τ) with | none => none | some x => ((b.ren σ).pairs (b.ren τ)).map (x ++ ·)) = _; rw [h1, h2]; show some (_ ++ _) = _; rw [← List.map_append]; rfl
  | list a h => exact h
  | _ => rfl
theorem ren_id : ∀ k : Kd, k.ren id = k := by
  intro k
  induction k <;> simp_all [Kd.ren]
theorem ren_dep (σ : Int → Int) : ∀ k : Kd, (k.ren σ).dep = k.dep := by
  intro k
  induction k <;> simp_all [Kd.ren, Kd.dep]
theorem ren_lv (σ : Int → Int) : ∀ k : Kd, (k.ren σ).lv = k.lv := by
  intro k
  induction k <;> simp_all [Kd.ren, Kd.lv]
theorem ren_gaps (σ : Int → Int) {p q : Int → Prop} (h : ∀ i, p i → q (σ i)) : ∀ {k : Kd}, k.gapsOk p → (k.ren σ).gapsOk q := by
  intro k
  induction k with
  | fn a b h1 h2 => exact fun x => ⟨h1 x.1, h2 x.2⟩
  | pair a b h1 h2 => exact fun x => ⟨h1 x.1, h2 x.2⟩
  | list a h1 => exact fun x => h1 x
  | any i => exact fun x => h i x
  | _ => exact fun _ => trivial
theorem plc_inj {l : List Int} {i j : Int} (hi : i ∈ l) (hj : j ∈ l) (e : plc l i = plc l j) : i = j := by
  unfold plc at e
  have e : l.idxOf i = l.idxOf j := by omega
  have h1 := List.getElem_idxOf (List.idxOf_lt_length_iff.mpr hi)
  have h2 := List.getElem_idxOf (List.idxOf_lt_length_iff.mpr hj)
  rw [← h1, ← h2]
  congr 1
theorem plc_range {l : List Int} (nd : l.Nodup) : l.map (plc l) = (List.range l.length).map fun i => ((i : Nat) : Int) := by
  apply List.ext_getElem
  · simp
  · intro i h1 h2
    rw [List.getElem_map, List.getElem_map, List.getElem_range]
    unfold plc
    rw [nd.idxOf_getElem]
theorem plc_of_range {n : Nat} {i : Int} (h : i ∈ (List.range n).map fun i => ((i : Nat) : Int)) : plc ((List.range n).map fun i => ((i : Nat) : Int)) i = i := by
  obtain ⟨j, hj, rfl⟩ := List.mem_map.mp h
  have nd : ((List.range n).map fun i => ((i : Nat) : Int)).Nodup := by
    exact List.Pairwise.map _ (fun a b h e => h (by omega)) List.nodup_range
  have hj := List.mem_range.mp hj
  unfold plc
  have : ((List.range n).map fun i => ((i : Nat) : Int))[j]'(by simpa using hj) = (j : Int) := by simp
  have h2 := nd.idxOf_getElem j (by simpa using hj)
  rw [this] at h2
  rw [h2]
theorem eqvAll_ints : ∀ l : List Int, D.eqvAll (intsD l) (intsD l) = true
  | [] => rfl
  | i :: l => by
    show (D.eqv (.int i) (.int i) && D.eqvAll (intsD l) (intsD l)) = true
    rw [eqvAll_ints l, eqv_int]
    simp
theorem cmpAll_ints : ∀ l : List Int, D.cmpAll (intsD l) = true
  | [] => rfl
  | i :: l => by show (true && D.cmpAll (intsD l)) = true; rw [cmpAll_ints l]; rfl
theorem depAll_ints : ∀ l : List Int, D.depAll (intsD l) = 0
  | [] => rfl
  | i :: l => by show max 0 (D.depAll (intsD l)) = 0; rw [depAll_ints l]; rfl
theorem op_ne_ints (l : List Int) : opD .ne (.lst (intsD l)) (.lst (intsD l)) = some (.bl false) := by
  show (if eqOk (.lst (intsD l)) (.lst (intsD l)) = true then some (D.bl (!D.eqvAll (intsD l) (intsD l))) else none) = _
  rw [if_pos, eqvAll_ints]
  · rfl
  · show (D.cmpAll (intsD l) && D.cmpAll (intsD l) && decide (min (D.depAll (intsD l) + 1) (D.depAll (intsD l) + 1) ≤ 190)) = true
    rw [cmpAll_ints, depAll_ints]
    rfl
theorem range_ints (m : Nat) (h : m ≤ 1000000) : bifD .lrange [.int (m : Int)] = some (.lst (intsD ((List.range m).map fun i => ((i : Nat) : Int)))) := by
  show (if (m : Int) ≤ 16777216 then (rangeD 0 m).map D.lst else none) = _
  rw [if_pos (by omega)]
  unfold rangeD
  rw [if_pos (by constructor <;> omega)]
  show some (D.lst _) = _
  rw [show ((m : Int) - 0).toNat = m by omega, show intsD ((List.range m).map fun i => ((i : Nat) : Int)) = (List.range m).map fun i => D.int ((i : Nat) : Int) from List.map_map]
  congr 2
  apply List.map_congr_left
  intro i _
  show D.int (0 + (i : Int)) = D.int i
  rw [Int.zero_add]
end KS

set_option Elab.async false
set_option linter.all false
set_option maxRecDepth 100000
/-! Fits: the program's look at whether the one is as wide as the other tells what the law's look tells. -/
namespace KS
open PySem L2
def fitK (t : Tl) (g : Int) (x : Kd) : Bool × Tl := match getT t g with
  | some v => (decide (v = x), t)
  | none => (true, setT t g x)
def Kd.fits : Kd → Kd → Tl → Bool × Tl
  | .any g, x, t => fitK t g x
  | .num, .num, t => (true, t)
  | .tru, .tru, t => (true, t)
  | .fn a b, .fn c d, t => ((a.fits c t).1 && (b.fits d (a.fits c t).2).1, (b.fits d (a.fits c t).2).2)
  | .pair a b, .pair c d, t => ((a.fits c t).1 && (b.fits d (a.fits c t).2).1, (b.fits d (a.fits c t).2).2)
  | .list a, .list c, t => a.fits c t
  | _, _, t => (false, t)
def fitPs : List (Int × Kd) → Tl → Bool × Tl
  | [], t => (true, t)
  | p :: ps, t => ((fitK t p.1 p.2).1 && (fitPs ps (fitK t p.1 p.2).2).1, (fitPs ps (fitK t p.1 p.2).2).2)
theorem fitPs_app : ∀ (ps qs : List (Int × Kd)) (t : Tl), fitPs (ps ++ qs) t = ((fitPs ps t).1 && (fitPs qs (fitPs ps t).2).1, (fitPs qs (fitPs ps t).2).2)
  | [], qs, t => by simp [fitPs]
  | p :: ps, qs, t => by simp [fitPs, fitPs_app ps qs, Bool.and_assoc]
theorem fits_pairs : ∀ (v k : Kd) (t : Tl), match v.pairs k with
    | some ps => v.fits k t = fitPs ps t
    | none => (v.fits k t).1 = false := by
  intro v
  induction v with
  | any g => intro k t; simp [Kd.pairs, Kd.fits, fitPs]
  | num => intro k t; cases k <;> rfl
  | tru => intro k t; cases k <;> rfl
  | list a ih => intro k t; cases k <;> first | rfl | exact ih _ t
  | fn a b h1 h2 =>
    intro k t
    cases k <;> first | rfl | skip
    rename_i c d
    have e1 := h1 c t
    have e2 := h2 d (a.fits c t).2
    show match (match a.pairs c with
      | none => none
      | some x => (b.pairs d).map (x ++ ·)) with
      | some ps => (Kd.fn a b).fits (.fn c d) t = fitPs ps t
      | none => ((Kd.fn a b).fits (.fn c d) t).1 = false
    cases q : a.pairs c with
    | none => rw [q] at e1; show ((a.fits c t).1 && _) = false; rw [e1]; rfl
    | some x =>
      rw [q] at e1
      cases q2 : b.pairs d with
      | none => rw [q2] at e2; show (_ && (b.fits d (a.fits c t).2).1) = false; rw [e2, Bool.and_false]
      | some y =>
        rw [q2] at e2
        show ((a.fits c t).1 && (b.fits d (a.fits c t).2).1, (b.fits d (a.fits c t).2).2) = fitPs (x ++ y) t
        rw [fitPs_app, e2, e1]
  | pair a b h1 h2 =>
    intro k t
    cases k <;> first | rfl | skip
    rename_i c d
    have e1 := h1 c t
    have e2 := h2 d (a.fits c t).2
    show match (match a.pairs c with
      | none => none
      | some x => (b.pairs d).map (x ++ ·)) with
      | some ps => (Kd.pair a b).fits (.pair c d) t = fitPs ps t
      | none => ((Kd.pair a b).fits (.pair c d) t).1 = false
    cases q : a.pairs c with
    | none => rw [q] at e1; show ((a.fits c t).1 && _) = false; rw [e1]; rfl
    | some x =>
      rw [q] at e1
      cases q2 : b.pairs d with
      | none => rw [q2] at e2; show (_ && (b.fits d (a.fits c t).2).1) = false; rw [e2, Bool.and_false]
      | some y =>
        rw [q2] at e2
        show ((a.fits c t).1 && (b.fits d (a.fits c t).2).1, (b.fits d (a.fits c t).2).2) = fitPs (x ++ y) t
        rw [fitPs_app, e2, e1]
/-- like gaps stand for like kinds -/
def Cons (ps : List (Int × Kd)) : Prop := ∀ p q, p ∈ ps → q ∈ ps → p.1 = q.1 → p.2 = q.2
theorem fitPs_iff : ∀ (ps : List (Int × Kd)) (t : Tl), (fitPs ps t).1 = true ↔ (∀ p, p ∈ ps → ∀ v, getT t p.1 = some v → v = p.2) ∧ Cons ps
  | [], t => ⟨fun _ => ⟨fun p h => (nomatch h), fun p q h => (nomatch h)⟩, fun _ => rfl⟩
  | p :: ps, t => by
    show ((fitK t p.1 p.2).1 && (fitPs ps (fitK t p.1 p.2).2).1) = true ↔ _
    rw [Bool.and_eq_true, fitPs_iff ps]
    unfold fitK
    cases e : getT t p.1 with
    | some v =>
      dsimp only
      constructor
      · rintro ⟨h1, h2, h3⟩
        have h1 := of_decide_eq_true h1
        subst h1
        refine ⟨fun q hq u hu => ?_, fun q r hq hr eq => ?_⟩
        · rcases List.mem_cons.mp hq with rfl | hq
          · rw [e] at hu; cases hu; rfl
          · exact h2 q hq u hu
        · rcases List.mem_cons.mp hq with hq | hq'
          · rcases List.mem_cons.mp hr with hr | hr'
            · rw [hq, hr]
            · rw [hq]; exact h2 r hr' _ (by rw [← eq, hq]; exact e)
          · rcases List.mem_cons.mp hr with hr | hr'
            · rw [hr]; exact (h2 q hq' _ (by rw [eq, hr]; exact e)).symm
            · exact h3 q r hq' hr' eq
      · rintro ⟨h1, h2⟩
        exact ⟨decide_eq_true (h1 p (List.mem_cons_self ..) v e), fun q hq => h1 q (List.mem_cons_of_mem _ hq), fun q r hq hr => h2 q r (List.mem_cons_of_mem _ hq) (List.mem_cons_of_mem _ hr)⟩
    | none =>
      dsimp only
      constructor
      · rintro ⟨_, h2, h3⟩
        have hp : ∀ q, q ∈ ps → q.1 = p.1 → q.2 = p.2 := fun q hq eq => (h2 q hq p.2 (by rw [getT_setT, if_pos eq.symm])).symm
        refine ⟨fun q hq u hu => ?_, fun q r hq hr eq => ?_⟩
        · rcases List.mem_cons.mp hq with rfl | hq
          · rw [e] at hu; cases hu
          · by_cases h : p.1 = q.1
            · rw [← h, e] at hu; cases hu
            · exact h2 q hq u (by rw [getT_setT, if_neg h]; exact hu)
        · rcases List.mem_cons.mp hq with hq | hq'
          · rcases List.mem_cons.mp hr with hr | hr'
            · rw [hq, hr]
            · rw [hq]; exact (hp r hr' (by rw [← eq, hq])).symm
          · rcases List.mem_cons.mp hr with hr | hr'
            · rw [hr]; exact hp q hq' (by rw [eq, hr])
            · exact h3 q r hq' hr' eq
      · rintro ⟨h1, h2⟩
        refine ⟨rfl, fun q hq u hu => ?_, fun q r hq hr => h2 q r (List.mem_cons_of_mem _ hq) (List.mem_cons_of_mem _ hr)⟩
        rw [getT_setT] at hu
        split at hu
        · rename_i h
          cases hu
          exact h2 p q (List.mem_cons_self ..) (List.mem_cons_of_mem _ hq) h
        · exact h1 q (List.mem_cons_of_mem _ hq) u hu
theorem widerB_iff {v k : Kd} : widerB v k = true ↔ ∃ ps, v.pairs k = some ps ∧ Cons ps := by
  constructor
  · intro h
    unfold widerB at h
    cases e : v.pairs k with
    | none => rw [e] at h; cases h
    | some ps =>
      rw [e] at h
      refine ⟨ps, rfl, fun p q hp hq eq => ?_⟩
      have h1 := List.all_eq_true.mp h p hp
      have h2 := List.all_eq_true.mp h q hq
      unfold hitT at h1 h2
      rw [eq] at h1
      cases e2 : getT (foldT [] ps) q.1 with
      | none => rw [e2] at h2; cases h2
      | some x =>
        rw [e2] at h1 h2
        rw [← of_decide_eq_true h1, ← of_decide_eq_true h2]
  · rintro ⟨ps, h, c⟩
    exact widerB_of h c
theorem fits_wider (v k : Kd) : (v.fits k []).1 = widerB v k := by
  have h := fits_pairs v k []
  rw [Bool.eq_iff_iff, widerB_iff]
  cases e : v.pairs k with
  | none =>
    rw [e] at h
    rw [h]
    exact ⟨fun z => (nomatch z), fun ⟨ps, z, _⟩ => (nomatch z)⟩
  | some ps =>
    rw [e] at h
    rw [h, fitPs_iff]
    exact ⟨fun ⟨_, c⟩ => ⟨ps, rfl, c⟩, fun ⟨qs, z, c⟩ => by cases z; exact ⟨fun p _ u hu => (by cases hu), c⟩⟩
def TlDep (n : Nat) (t : Tl) : Prop := ∀ g v, getT t g = some v → v.dep ≤ n
theorem fits_dep {n : Nat} : ∀ (v k : Kd) (t : Tl), TlDep n t → k.dep ≤ n → TlDep n (v.fits k t).2 := by
  intro v
  induction v with
  | any g =>
    intro k t h hk
    show TlDep n (fitK t g k).2
    unfold fitK
    cases e : getT t g with
    | some v => exact h
    | none =>
      intro j u hu
      have hu : getT (setT t g k) j = some u := hu
      rw [getT_setT] at hu
      split at hu
      · cases hu; exact hk
      · exact h j u hu
  | num => intro k t h hk; cases k <;> exact h
  | tru => intro k t h hk; cases k <;> exact h
  | list a ih => intro k t h hk; cases k <;> first | exact h | (refine ih _ t h ?_; simp [Kd.dep] at hk; omega)
  | fn a b h1 h2 => intro k t h hk; cases k <;> first | exact h | (refine h2 _ _ (h1 _ t h ?_) ?_ <;> simp [Kd.dep] at hk <;> omega)
  | pair a b h1 h2 => intro k t h hk; cases k <;> first | exact h | (refine h2 _ _ (h1 _ t h ?_) ?_ <;> simp [Kd.dep] at hk <;> omega)
theorem fits_len : ∀ (v k : Kd) (t : Tl), (v.fits k t).2.length ≤ t.length + v.lv := by
  intro v
  induction v with
  | any g =>
    intro k t
    show (fitK t g k).2.length ≤ _
    unfold fitK
    cases e : getT t g with
    | some v => exact Nat.le_add_right ..
    | none => exact setT_length t g k
  | num => intro k t; cases k <;> exact Nat.le_add_right ..
  | tru => intro k t; cases k <;> exact Nat.le_add_right ..
  | list a ih => intro k t; cases k <;> first | exact Nat.le_add_right .. | exact ih _ t
  | fn a b h1 h2 =>
    intro k t
    cases k <;> first | exact Nat.le_add_right .. | skip
    rename_i c d
    have := h1 c t
    have := h2 d (a.fits c t).2
    show (b.fits d (a.fits c t).2).2.length ≤ t.length + (a.lv + b.lv)
    omega
  | pair a b h1 h2 =>
    intro k t
    cases k <;> first | exact Nat.le_add_right .. | skip
    rename_i c d
    have := h1 c t
    have := h2 d (a.fits c t).2
    show (b.fits d (a.fits c t).2).2.length ≤ t.length + (a.lv + b.lv)
    omega
section
variable {w : Nat}
local macro_rules | `(tactic| walk_at "st") => `(tactic| first | (refine go_o rfl ?_) | (refine go_tt rfl ?_) | (refine go_ff rfl ?_) | (refine go_un rfl ?_))
theorem setd_tl (t : Tl) (g : Int) (x : Kd) (h : t.length < 1000000) : setdD (some (.od (tlD t))) (.int g) x.enc = some (((getT t g).getD x).enc, .od (tlD (fitK t g x).2)) := by
  show (if (tlD t).length < lim then (match getK (tlD t) (.inl g) with
    | some v => some (v, SV.od (tlD t))
    | none => some (x.enc, SV.od (setK (tlD t) (.inl g) x.enc))) else none) = _
  rw [tlD_length, if_pos (by show _ < 16777216; omega), getK_tlD]
  unfold fitK
  cases e : getT t g with
  | some v => rfl
  | none => show some (x.enc, SV.od (setK (tlD t) (.inl g) x.enc)) = _; rw [setK_tlD]; rfl
theorem pfits : ∀ (v k : Kd) (t : Tl) (n : Nat), v.dep < n → TlDep 170 t → k.dep ≤ 170 → t.length + v.lv ≤ 900000 → sem PD w n 15 [.dat v.enc, .dat k.enc, .od (tlD t)] = .ok (.bl (v.fits k t).1) [.od (tlD (v.fits k t).2)] := by
  intro v
  induction v with
  | any g =>
    intro k t n h hd hk hl
    obtain ⟨n, rfl⟩ : ∃ m, n = m + 1 := ⟨n - 1, by omega⟩
    refine sem_go (d := d15) rfl ?_
    repeat walk_at "st"
    refine go_o (setd_tl t g k (by omega)) ?_
    repeat walk_at "st"
    have hv : ((getT t g).getD k).dep ≤ 170 := by
      cases e : getT t g with
      | some v => exact hd g v e
      | none => exact hk
    refine go_o (op_eq_enc _ k (by omega)) ?_
    repeat walk_at "st"
    refine go_ok ?_
    show RF.ok (.bl (decide ((getT t g).getD k = k))) [.od (tlD (fitK t g k).2)] = .ok (.bl (fitK t g k).1) _
    congr 2
    unfold fitK
    cases e : getT t g with
    | some v => rfl
    | none => simp
  | num =>
    intro k t n h hd hk hl
    obtain ⟨n, rfl⟩ : ∃ m, n = m + 1 := ⟨n - 1, by omega⟩
    refine sem_go (d := d15) rfl ?_
    cases k <;> (repeat walk_at "st") <;> exact go_ok rfl
  | tru =>
    intro k t n h hd hk hl
    obtain ⟨n, rfl⟩ : ∃ m, n = m + 1 := ⟨n - 1, by omega⟩
    refine sem_go (d := d15) rfl ?_
    cases k <;> (repeat walk_at "st") <;> exact go_ok rfl
  | list a ih =>
    intro k t n h hd hk hl
    obtain ⟨n, rfl⟩ : ∃ m, n = m + 1 := ⟨n - 1, by omega⟩
    refine sem_go (d := d15) rfl ?_
    cases k with
    | list c =>
      have h1 := ih c t n (by simp [Kd.dep] at h; omega) hd (by simp [Kd.dep] at hk; omega) hl
      repeat walk_at "st"
      refine go_call h1 ?_
      repeat walk_at "st"
      exact go_ok (by show RF.ok (.bl (_ && true)) _ = _; rw [Bool.and_true]; rfl)
    | _ => (repeat walk_at "st") <;> exact go_ok rfl
  | fn a b ih1 ih2 =>
    intro k t n h hd hk hl
    obtain ⟨n, rfl⟩ : ∃ m, n = m + 1 := ⟨n - 1, by omega⟩
    refine sem_go (d := d15) rfl ?_
    have hl : t.length + (a.lv + b.lv) ≤ 900000 := hl
    cases k with
    | fn c d =>
      have kc : c.dep ≤ 170 := by simp [Kd.dep] at hk; omega
      have kd : d.dep ≤ 170 := by simp [Kd.dep] at hk; omega
      have h1 := ih1 c t n (by simp [Kd.dep] at h; omega) hd kc (by omega)
      have l1 := fits_len a c t
      have h2 := ih2 d (a.fits c t).2 n (by simp [Kd.dep] at h; omega) (fits_dep a c t hd kc) kd (by omega)
      repeat walk_at "st"
      refine go_call h1 ?_
      repeat walk_at "st"
      refine go_call h2 ?_
      repeat walk_at "st"
      exact go_ok (by show RF.ok (.bl (_ && (_ && true))) _ = _; rw [Bool.and_true]; rfl)
    | _ => (repeat walk_at "st") <;> exact go_ok rfl
  | pair a b ih1 ih2 =>
    intro k t n h hd hk hl
    obtain ⟨n, rfl⟩ : ∃ m, n = m + 1 := ⟨n - 1, by omega⟩
    refine sem_go (d := d15) rfl ?_
    have hl : t.length + (a.lv + b.lv) ≤ 900000 := hl
    cases k with
    | pair c d =>
      have kc : c.dep ≤ 170 := by simp [Kd.dep] at hk; omega
      have kd : d.dep ≤ 170 := by simp [Kd.dep] at hk; omega
      have h1 := ih1 c t n (by simp [Kd.dep] at h; omega) hd kc (by omega)
      have l1 := fits_len a c t
      have h2 := ih2 d (a.fits c t).2 n (by simp [Kd.dep] at h; omega) (fits_dep a c t hd kc) kd (by omega)
      repeat walk_at "st"
      refine go_call h1 ?_
      repeat walk_at "st"
      refine go_call h2 ?_
      repeat walk_at "st"
      exact go_ok (by show RF.ok (.bl (_ && (_ && true))) _ = _; rw [Bool.and_true]; rfl)
    | _ => (repeat walk_at "st") <;> exact go_ok rfl
theorem pwider (v k : Kd) (n : Nat) (h : v.dep < n) (hk : k.dep ≤ 170) (hl : v.lv ≤ 900000) : sem PD w (n + 1) 16 [.dat v.enc, .dat k.enc] = .ok (.bl (widerB v k)) [] := by
  have h1 := pfits (w := w) v k [] n h (fun g u hu => by cases hu) hk (by simpa using hl)
  rw [fits_wider] at h1
  refine sem_go (d := d16) rfl ?_
  repeat walk_at "st"
  refine go_call h1 ?_
  repeat walk_at "st"
  exact go_ok rfl
end
/-- what stands behind the gaps -/
theorem pairs_fill (t : Tl) : ∀ k : Kd, k.pairs (k.fill t) = some (k.occ.map fun g => (g, (getT t g).getD (.any g))) := by
  intro k
  induction k with
  | fn a b h1 h2 => show (match a.pairs (a.fill t) with | none => none | some x => (b.pairs (b.fill t)).map (x ++ ·)) = _; rw [h1, h2]; show some (_ ++ _) = _; rw [← List.map_append]; rfl
  | pair a b h1 h2 => show (match a.pairs (a.fill t) with | none => none | some x => (b.pairs (b.fill t)).map (x ++ ·)) = _; rw [h1, h2]; show some (_ ++ _) = _; rw [← List.map_append]; rfl
  | list a h => exact h
  | _ => rfl
theorem wider_fill (t : Tl) (k : Kd) : widerB k (k.fill t) = true := widerB_of (pairs_fill t k) fun p q hp hq e => by
  obtain ⟨i, _, rfl⟩ := List.mem_map.mp hp
  obtain ⟨j, _, rfl⟩ := List.mem_map.mp hq
  have e : i = j := e
  rw [e]
theorem wider_self (k : Kd) : widerB k k = true := by
  have := wider_fill [] k
  rwa [fill_nil] at this
theorem pairs_dep : ∀ (v k : Kd) (ps : List (Int × Kd)), v.pairs k = some ps → ∀ p, p ∈ ps → p.2.dep ≤ k.dep := by
  intro v
  induction v with
  | any i => intro k ps h p hp; cases h; rcases List.mem_singleton.mp hp with rfl; exact Nat.le_refl _
  | num => intro k ps h p hp; cases k <;> cases h; exact (nomatch hp)
  | tru => intro k ps h p hp; cases k <;> cases h; exact (nomatch hp)
  | list a ih => intro k ps h p hp; cases k <;> first | (cases h; done) | (have := ih _ ps h p hp; simp [Kd.dep]; omega)
  | fn a b h1 h2 =>
    intro k ps h p hp
    cases k <;> first | (cases h; done) | skip
    rename_i c d
    simp only [Kd.pairs] at h
    split at h
    · cases h
    · rename_i x e
      obtain ⟨y, hy, rfl⟩ := Option.map_eq_some_iff.mp h
      rcases List.mem_append.mp hp with hp | hp
      · have := h1 c x e p hp; simp [Kd.dep]; omega
      · have := h2 d y hy p hp; simp [Kd.dep]; omega
  | pair a b h1 h2 =>
    intro k ps h p hp
    cases k <;> first | (cases h; done) | skip
    rename_i c d
    simp only [Kd.pairs] at h
    split at h
    · cases h
    · rename_i x e
      obtain ⟨y, hy, rfl⟩ := Option.map_eq_some_iff.mp h
      rcases List.mem_append.mp hp with hp | hp
      · have := h1 c x e p hp; simp [Kd.dep]; omega
      · have := h2 d y hy p hp; simp [Kd.dep]; omega
end KS

set_option Elab.async false
set_option linter.all false
set_option maxRecDepth 100000
namespace K11
open PySem L2 KS
def fuel : Nat := 2 ^ 160
abbrev depth : Nat := 60
local macro_rules | `(tactic| walk_at "st") => `(tactic| first | (refine go_o rfl ?_) | (refine go_tt rfl ?_) | (refine go_ff rfl ?_))
theorem pairs_app (θ : Int → Kd) : ∀ k : Kd, k.pairs (k.app θ) = some (k.occ.map fun g => (g, θ g)) := by
  intro k
  induction k with
  | fn a b h1 h2 => show (match a.pairs (a.app θ) with | none => none | some x => (b.pairs (b.app θ)).map (x ++ ·)) = _; rw [h1, h2]; show some (_ ++ _) = _; rw [← List.map_append]; rfl
  | pair a b h1 h2 => show (match a.pairs (a.app θ) with | none => none | some x => (b.pairs (b.app θ)).map (x ++ ·)) = _; rw [h1, h2]; show some (_ ++ _) = _; rw [← List.map_append]; rfl
  | list a h => exact h
  | _ => rfl
theorem wider_app (θ : Int → Kd) (k : Kd) : widerB k (k.app θ) = true := by
  refine widerB_of (pairs_app θ k) fun p q hp hq e => ?_
  obtain ⟨g, _, rfl⟩ := List.mem_map.mp hp
  obtain ⟨j, _, rfl⟩ := List.mem_map.mp hq
  have e : g = j := e
  rw [e]
def baseL : List Int := [0, 1, 2, 3, 7, 10 ^ 30]
theorem base_mem {g : Int} (h : baseG g) : g ∈ baseL := by
  rcases h with h | h | h | h | h | h <;> rw [h] <;> simp [baseL]
def vars (a b : Kd) : List Int := extL a.gapsL b.gapsL
theorem vars_len {a b : Kd} (ha : a.gapsOk baseG) (hb : b.gapsOk baseG) : (vars a b).length ≤ 6 := sub_length (l2 := baseL) (extL_nodup (gapsL_nodup a) (gapsL_nodup b)) fun x hx => by
  rcases mem_extL.mp hx with hx | hx
  · exact base_mem (mem_gapsL ha x hx)
  · exact base_mem (mem_gapsL hb x hx)
theorem un_v {o : Kd → Kd → Kd × Kd} (O : Ori o) {a b : Kd} (da : a.dep ≤ 3) (db : b.dep ≤ 3) (ha : a.gapsOk baseG) (hb : b.gapsOk baseG) :
    ∃ r, Un o 21 (vars a b) 154 (2 ^ 154 - 1) [] a b r ∧ ∀ t', r = some t' → Sz 21 (vars a b) t' a b ∧ a.fill t' = b.fill t' := by
  have l := vars_len ha hb
  obtain ⟨r, u, h⟩ := un_g O (V := vars a b) (E := 21) (by omega) da db (fun g hg => mem_extL.mpr (.inl hg)) (fun g hg => mem_extL.mpr (.inr hg))
  refine ⟨r, u.mono (by omega) ?_, h⟩
  have pw : 2 ^ ((vars a b).length * (21 + 1) + 21 + 1) ≤ 2 ^ 154 := Nat.pow_le_pow_right (by decide) (by omega)
  exact Nat.sub_le_sub_right pw 1
theorem lv21 {k : Kd} (h : k.dep ≤ 21) : k.lv ≤ 4000000 := Nat.le_trans (lv_le k) (Nat.le_trans (Nat.pow_le_pow_right (n := 2) (by decide) h) (by decide))
section
variable {w : Nat} {ns : List Int}
/-- two fillings that each know the other -/
theorem wide_two {a b : Kd} {o : Kd → Kd → Kd × Kd} (O : Ori o) {E V h wN r} (u : Un o E V h wN [] a b r) {t2 : Tl} (e : a.fill t2 = b.fill t2) : ∃ t1, r = some t1 ∧ widerB (a.fill t1) (a.fill t2) = true := by
  obtain ⟨t1, e1, m⟩ := u.wide O (θ := fnT t2) .nil (by rw [← fill_app, ← fill_app]; exact e)
  refine ⟨t1, e1, ?_⟩
  have : a.fill t2 = (a.fill t1).app (fnT t2) := by rw [m.fill, fill_app]
  rw [this]
  exact wider_app _ _
theorem prog_end {a b : Kd} {r : Option Tl} (hw : 2 ^ 154 ≤ w) (ha : a.gapsOk baseG) (hb : b.gapsOk baseG) (u : Un ori 21 (vars a b) 154 (2 ^ 154 - 1) [] a b r) : sem PD w 58 19 [.dat a.enc, .dat b.enc] = unR r := by
  have l := vars_len ha hb
  refine joined_un (w := w) u (by decide) (by omega) 34 (by decide) ?_
  revert hw
  have : 1 ≤ 2 ^ 154 := Nat.one_le_pow _ _ (by decide)
  revert this
  generalize 2 ^ 154 = A
  intro h1 h2
  omega
theorem law_end {a b : Kd} {r : Option Tl} (hw : 2 ^ 154 ≤ w) (ha : a.gapsOk baseG) (hb : b.gapsOk baseG) (u : Un ori2 21 (vars a b) 154 (2 ^ 154 - 1) [] a b r) : sem PD w 59 27 [.dat (.lst [.tup [a.enc, b.enc]])] = unL r := by
  have l := vars_len ha hb
  refine solve_un (w := w) u (by decide) (by omega) 35 (by decide) ?_
  revert hw
  have : 1 ≤ 2 ^ 154 := Nat.one_le_pow _ _ (by decide)
  revert this
  generalize 2 ^ 154 = A
  intro h1 h2
  omega
set_option maxHeartbeats 0 in
theorem law_w (hw : 2 ^ 154 ≤ w) (ns : List Int) : sem PD w 60 28 [.dat (.scr ns)] = .ok (.bl true) [] := by
  obtain ⟨v, v1, v2⟩ := mix (w := w) (ns := ns) 57 60
  obtain ⟨a, a1, a2, a3⟩ := kindV (w := w) (ns := ns) 3 53 0
  obtain ⟨b, b1, b2, b3⟩ := kindV (w := w) (ns := ns) 3 53 (20 + v % 20)
  obtain ⟨r1, u1, h1⟩ := un_v oriP a1 b1 a2 b2
  obtain ⟨r2, u2, h2⟩ := un_v oriL a1 b1 a2 b2
  obtain ⟨r3, u3, h3⟩ := un_v oriP b1 a1 b2 a2
  have e1 := prog_end (w := w) hw a2 b2 u1
  have e2 := law_end (w := w) hw a2 b2 u2
  have e3 := prog_end (w := w) hw b2 a2 u3
  refine sem_go (d := d28) rfl ?_
  repeat first | (refine go_o (a := [_, _, _, _, _, _]) rfl ?_) | (refine go_call a3 ?_) | (refine go_call v2 ?_) | (refine go_call b3 ?_) | walk_at "st" | (refine go_un rfl ?_)
  cases r2 with
  | none =>
    have n1 : r1 = none := by
      cases r1 with
      | none => rfl
      | some t1 => obtain ⟨_, z, _⟩ := wide_two oriL u2 (h1 t1 rfl).2; exact nomatch z
    have n3 : r3 = none := by
      cases r3 with
      | none => rfl
      | some t3 => obtain ⟨_, z, _⟩ := wide_two oriL u2 (h3 t3 rfl).2.symm; exact nomatch z
    subst n1 n3
    have e4 := told_no e1
    have e5 := told_no e3
    repeat first | (refine go_o (a := [_, _, _, _, _, _]) rfl ?_) | (refine go_call e4 ?_) | (refine go_call e2 ?_) | (refine go_call e5 ?_) | walk_at "st" | (refine go_un rfl ?_)
    exact go_ok rfl
  | some t2 =>
    obtain ⟨s2, q2⟩ := h2 t2 rfl
    obtain ⟨t1, rfl, w1⟩ := wide_two oriP u1 q2
    obtain ⟨s1, q1⟩ := h1 t1 rfl
    obtain ⟨t2', z, w2⟩ := wide_two oriL u2 q1
    cases z
    have e4 := told_ok e1
    have fa1 := s1.fa
    have fa2 := s2.fa
    have tl := s1.len
    have l := vars_len a2 b2
    have lva : a.lv ≤ 8 := Nat.le_trans (lv_le a) (Nat.pow_le_pow_right (n := 2) (by decide) a1)
    have lvb : b.lv ≤ 8 := Nat.le_trans (lv_le b) (Nat.pow_le_pow_right (n := 2) (by decide) b1)
    have e5 := joins_ok (w := w) (n := 58) s1.ok (by omega) (by omega) (by omega) (by omega) (by omega) (by omega) (fun p hp => by
      obtain ⟨p1, p2, p3⟩ := s1.ts p hp
      have gl := sub_length (gapsL_nodup p.2) p3
      refine ⟨by omega, by omega, gapsOk_mono (fun i hi => ?_) (gapsOk_mem p.2), mem_extL.mp p1⟩
      rcases mem_extL.mp (p3 i hi) with z | z
      · exact base_pos (mem_gapsL a2 i z)
      · exact base_pos (mem_gapsL b2 i z)) q1
    have f1 := filled21 (w := w) t1 a 59 (by omega)
    have f2 := filled21 (w := w) t2 a 59 (by omega)
    have c1 := lwider22 (w := w) (a.fill t1) (a.fill t2) 58 (by omega) (lv21 fa1) fun ps h p hp => by have := pairs_dep _ _ ps h p hp; omega
    have c2 := lwider22 (w := w) (a.fill t2) (a.fill t1) 58 (by omega) (lv21 fa2) fun ps h p hp => by have := pairs_dep _ _ ps h p hp; omega
    rw [w1] at c1
    rw [w2] at c2
    have e2 : sem PD w 59 27 [.dat (.lst [.tup [a.enc, b.enc]])] = .ok (.dic (tlD t2)) [] := e2
    repeat first | (refine go_o (a := [_, _, _, _, _, _]) rfl ?_) | (refine go_call e4 ?_) | (refine go_call e2 ?_) | (refine go_call e5 ?_) | (refine go_call f2 ?_) | (refine go_call f1 ?_) | (refine go_call c1 ?_) | (refine go_call c2 ?_) | walk_at "st" | (refine go_un rfl ?_)
    exact go_ok rfl
end
theorem law_true (ns : List Int) (_ : ns.length ≤ 63) : sem PD fuel depth 28 [.dat (.scr ns)] = .ok (.bl true) [] := law_w (Nat.pow_le_pow_right (by decide) (by decide)) ns
end K11

set_option Elab.async false
set_option linter.all false
set_option maxRecDepth 100000
namespace K11
open PySem L2 KS
set_option maxHeartbeats 0 in
theorem all_mk {l : PySem.W.OpenLaw} {w : World} {K : PySem.W.Frag} {h : Heap} {mg : Str → Option Value} {fa : Addr} (X : K.In h) (G : h.Ns mainGlobals mg) (hfa : mg "law" = some (.ref fa))
    {f0 : Addr} {od0 an0 : Option Addr} {sl0 : Array (Option Value)} {oc0 kV0 dc0 pm0 cd0 ct0 : Value} (a0 : PySem.W.nsIn K mainGlobals "filled" = some (some (.ref f0))) (l0 : K.lookup f0 = some ⟨oc0, od0, .func (PySem.W.fnOf "filled" "filled" (defArgs (top 7)) (defBody (top 7)) (defScope (top 7)) .none kV0 dc0 pm0 an0 cd0 ct0), sl0⟩) (c0 : PySem.W.codeIn K cd0 "filled" = true) (k0 : PySem.W.keepIn K (.ref f0) = true)
    {f1 : Addr} {od1 an1 : Option Addr} {sl1 : Array (Option Value)} {oc1 kV1 dc1 pm1 cd1 ct1 : Value} (a1 : PySem.W.nsIn K mainGlobals "gaps" = some (some (.ref f1))) (l1 : K.lookup f1 = some ⟨oc1, od1, .func (PySem.W.fnOf "gaps" "gaps" (defArgs (top 8)) (defBody (top 8)) (defScope (top 8)) .none kV1 dc1 pm1 an1 cd1 ct1), sl1⟩) (c1 : PySem.W.codeIn K cd1 "gaps" = true) (k1 : PySem.W.keepIn K (.ref f1) = true)
    {f2 : Addr} {od2 an2 : Option Addr} {sl2 : Array (Option Value)} {oc2 kV2 dc2 pm2 cd2 ct2 : Value} (a2 : PySem.W.nsIn K mainGlobals "joined" = some (some (.ref f2))) (l2 : K.lookup f2 = some ⟨oc2, od2, .func (PySem.W.fnOf "joined" "joined" (defArgs (top 9)) (defBody (top 9)) (defScope (top 9)) .none kV2 dc2 pm2 an2 cd2 ct2), sl2⟩) (c2 : PySem.W.codeIn K cd2 "joined" = true) (k2 : PySem.W.keepIn K (.ref f2) = true)
    {f3 : Addr} {od3 an3 : Option Addr} {sl3 : Array (Option Value)} {oc3 kV3 dc3 pm3 cd3 ct3 : Value} (a3 : PySem.W.nsIn K mainGlobals "grown" = some (some (.ref f3))) (l3 : K.lookup f3 = some ⟨oc3, od3, .func (PySem.W.fnOf "grown" "grown" (defArgs (top 10)) (defBody (top 10)) (defScope (top 10)) .none kV3 dc3 pm3 an3 cd3 ct3), sl3⟩) (c3 : PySem.W.codeIn K cd3 "grown" = true) (k3 : PySem.W.keepIn K (.ref f3) = true)
    {f4 : Addr} {od4 an4 : Option Addr} {sl4 : Array (Option Value)} {oc4 kV4 dc4 pm4 cd4 ct4 : Value} (a4 : PySem.W.nsIn K mainGlobals "_law_cell" = some (some (.ref f4))) (l4 : K.lookup f4 = some ⟨oc4, od4, .func (PySem.W.fnOf "_law_cell" "_law_cell" (defArgs (top 12)) (defBody (top 12)) (defScope (top 12)) .none kV4 dc4 pm4 an4 cd4 ct4), sl4⟩) (c4 : PySem.W.codeIn K cd4 "_law_cell" = true) (k4 : PySem.W.keepIn K (.ref f4) = true)
    {f5 : Addr} {od5 an5 : Option Addr} {sl5 : Array (Option Value)} {oc5 kV5 dc5 pm5 cd5 ct5 : Value} (a5 : PySem.W.nsIn K mainGlobals "_law_mix" = some (some (.ref f5))) (l5 : K.lookup f5 = some ⟨oc5, od5, .func (PySem.W.fnOf "_law_mix" "_law_mix" (defArgs (top 13)) (defBody (top 13)) (defScope (top 13)) .none kV5 dc5 pm5 an5 cd5 ct5), sl5⟩) (c5 : PySem.W.codeIn K cd5 "_law_mix" = true) (k5 : PySem.W.keepIn K (.ref f5) = true)
    {f6 : Addr} {od6 an6 : Option Addr} {sl6 : Array (Option Value)} {oc6 kV6 dc6 pm6 cd6 ct6 : Value} (a6 : PySem.W.nsIn K mainGlobals "_law_whole" = some (some (.ref f6))) (l6 : K.lookup f6 = some ⟨oc6, od6, .func (PySem.W.fnOf "_law_whole" "_law_whole" (defArgs (top 14)) (defBody (top 14)) (defScope (top 14)) .none kV6 dc6 pm6 an6 cd6 ct6), sl6⟩) (c6 : PySem.W.codeIn K cd6 "_law_whole" = true) (k6 : PySem.W.keepIn K (.ref f6) = true)
    {f7 : Addr} {od7 an7 : Option Addr} {sl7 : Array (Option Value)} {oc7 kV7 dc7 pm7 cd7 ct7 : Value} (a7 : PySem.W.nsIn K mainGlobals "_law_gap" = some (some (.ref f7))) (l7 : K.lookup f7 = some ⟨oc7, od7, .func (PySem.W.fnOf "_law_gap" "_law_gap" (defArgs (top 15)) (defBody (top 15)) (defScope (top 15)) .none kV7 dc7 pm7 an7 cd7 ct7), sl7⟩) (c7 : PySem.W.codeIn K cd7 "_law_gap" = true) (k7 : PySem.W.keepIn K (.ref f7) = true)
    {f8 : Addr} {od8 an8 : Option Addr} {sl8 : Array (Option Value)} {oc8 kV8 dc8 pm8 cd8 ct8 : Value} (a8 : PySem.W.nsIn K mainGlobals "_law_kind" = some (some (.ref f8))) (l8 : K.lookup f8 = some ⟨oc8, od8, .func (PySem.W.fnOf "_law_kind" "_law_kind" (defArgs (top 16)) (defBody (top 16)) (defScope (top 16)) .none kV8 dc8 pm8 an8 cd8 ct8), sl8⟩) (c8 : PySem.W.codeIn K cd8 "_law_kind" = true) (k8 : PySem.W.keepIn K (.ref f8) = true)
    {f9 : Addr} {od9 an9 : Option Addr} {sl9 : Array (Option Value)} {oc9 kV9 dc9 pm9 cd9 ct9 : Value} (a9 : PySem.W.nsIn K mainGlobals "_law_filled" = some (some (.ref f9))) (l9 : K.lookup f9 = some ⟨oc9, od9, .func (PySem.W.fnOf "_law_filled" "_law_filled" (defArgs (top 17)) (defBody (top 17)) (defScope (top 17)) .none kV9 dc9 pm9 an9 cd9 ct9), sl9⟩) (c9 : PySem.W.codeIn K cd9 "_law_filled" = true) (k9 : PySem.W.keepIn K (.ref f9) = true)
    {f10 : Addr} {od10 an10 : Option Addr} {sl10 : Array (Option Value)} {oc10 kV10 dc10 pm10 cd10 ct10 : Value} (a10 : PySem.W.nsIn K mainGlobals "_law_gaps" = some (some (.ref f10))) (l10 : K.lookup f10 = some ⟨oc10, od10, .func (PySem.W.fnOf "_law_gaps" "_law_gaps" (defArgs (top 18)) (defBody (top 18)) (defScope (top 18)) .none kV10 dc10 pm10 an10 cd10 ct10), sl10⟩) (c10 : PySem.W.codeIn K cd10 "_law_gaps" = true) (k10 : PySem.W.keepIn K (.ref f10) = true)
    {f11 : Addr} {od11 an11 : Option Addr} {sl11 : Array (Option Value)} {oc11 kV11 dc11 pm11 cd11 ct11 : Value} (a11 : PySem.W.nsIn K mainGlobals "_law_pairs" = some (some (.ref f11))) (l11 : K.lookup f11 = some ⟨oc11, od11, .func (PySem.W.fnOf "_law_pairs" "_law_pairs" (defArgs (top 19)) (defBody (top 19)) (defScope (top 19)) .none kV11 dc11 pm11 an11 cd11 ct11), sl11⟩) (c11 : PySem.W.codeIn K cd11 "_law_pairs" = true) (k11 : PySem.W.keepIn K (.ref f11) = true)
    {f12 : Addr} {od12 an12 : Option Addr} {sl12 : Array (Option Value)} {oc12 kV12 dc12 pm12 cd12 ct12 : Value} (a12 : PySem.W.nsIn K mainGlobals "_law_wider" = some (some (.ref f12))) (l12 : K.lookup f12 = some ⟨oc12, od12, .func (PySem.W.fnOf "_law_wider" "_law_wider" (defArgs (top 20)) (defBody (top 20)) (defScope (top 20)) .none kV12 dc12 pm12 an12 cd12 ct12), sl12⟩) (c12 : PySem.W.codeIn K cd12 "_law_wider" = true) (k12 : PySem.W.keepIn K (.ref f12) = true)
    {f13 : Addr} {od13 an13 : Option Addr} {sl13 : Array (Option Value)} {oc13 kV13 dc13 pm13 cd13 ct13 : Value} (a13 : PySem.W.nsIn K mainGlobals "_law_is_kind" = some (some (.ref f13))) (l13 : K.lookup f13 = some ⟨oc13, od13, .func (PySem.W.fnOf "_law_is_kind" "_law_is_kind" (defArgs (top 21)) (defBody (top 21)) (defScope (top 21)) .none kV13 dc13 pm13 an13 cd13 ct13), sl13⟩) (c13 : PySem.W.codeIn K cd13 "_law_is_kind" = true) (k13 : PySem.W.keepIn K (.ref f13) = true)
    {f14 : Addr} {od14 an14 : Option Addr} {sl14 : Array (Option Value)} {oc14 kV14 dc14 pm14 cd14 ct14 : Value} (a14 : PySem.W.nsIn K mainGlobals "_law_solve" = some (some (.ref f14))) (l14 : K.lookup f14 = some ⟨oc14, od14, .func (PySem.W.fnOf "_law_solve" "_law_solve" (defArgs (top 22)) (defBody (top 22)) (defScope (top 22)) .none kV14 dc14 pm14 an14 cd14 ct14), sl14⟩) (c14 : PySem.W.codeIn K cd14 "_law_solve" = true) (k14 : PySem.W.keepIn K (.ref f14) = true)
    {f15 : Addr} {od15 an15 : Option Addr} {sl15 : Array (Option Value)} {oc15 kV15 dc15 pm15 cd15 ct15 : Value} (a15 : PySem.W.nsIn K mainGlobals "_law_told" = some (some (.ref f15))) (l15 : K.lookup f15 = some ⟨oc15, od15, .func (PySem.W.fnOf "_law_told" "_law_told" (defArgs (top 23)) (defBody (top 23)) (defScope (top 23)) .none kV15 dc15 pm15 an15 cd15 ct15), sl15⟩) (c15 : PySem.W.codeIn K cd15 "_law_told" = true) (k15 : PySem.W.keepIn K (.ref f15) = true)
    {f16 : Addr} {od16 an16 : Option Addr} {sl16 : Array (Option Value)} {oc16 kV16 dc16 pm16 cd16 ct16 : Value} (a16 : PySem.W.nsIn K mainGlobals "_law_joins" = some (some (.ref f16))) (l16 : K.lookup f16 = some ⟨oc16, od16, .func (PySem.W.fnOf "_law_joins" "_law_joins" (defArgs (top 24)) (defBody (top 24)) (defScope (top 24)) .none kV16 dc16 pm16 an16 cd16 ct16), sl16⟩) (c16 : PySem.W.codeIn K cd16 "_law_joins" = true) (k16 : PySem.W.keepIn K (.ref f16) = true)
    {f17 : Addr} {od17 an17 : Option Addr} {sl17 : Array (Option Value)} {oc17 kV17 dc17 pm17 cd17 ct17 : Value} (a17 : PySem.W.nsIn K mainGlobals "law" = some (some (.ref f17))) (l17 : K.lookup f17 = some ⟨oc17, od17, .func (PySem.W.fnOf "law" "law" (defArgs (top 25)) (defBody (top 25)) (defScope (top 25)) .none kV17 dc17 pm17 an17 cd17 ct17), sl17⟩) (c17 : PySem.W.codeIn K cd17 "law" = true) (k17 : PySem.W.keepIn K (.ref f17) = true)
    (z0 : PySem.W.nsIn K mainGlobals "len" = some none)
    (z1 : PySem.W.nsIn K mainGlobals "tuple" = some none)
    (z2 : PySem.W.nsIn K mainGlobals "list" = some none)
    (z3 : PySem.W.nsIn K mainGlobals "dict" = some none)
    (z4 : PySem.W.nsIn K mainGlobals "int" = some none)
    (z5 : PySem.W.nsIn K mainGlobals "all" = some none)
    (z6 : PySem.W.nsIn K mainGlobals "any" = some none)
    (z7 : PySem.W.nsIn K mainGlobals "max" = some none)
    (z8 : PySem.W.nsIn K mainGlobals "min" = some none)
    (z9 : PySem.W.nsIn K mainGlobals "range" = some none)
    (z10 : PySem.W.nsIn K mainGlobals "isinstance" = some none)
    (z11 : PySem.W.nsIn K mainGlobals "bool" = some none)
    (z12 : PySem.W.nsIn K mainGlobals "str" = some none)
    (z13 : PySem.W.nsIn K mainGlobals "zip" = some none)
    (z14 : PySem.W.nsIn K mainGlobals "sum" = some none)
    (z15 : PySem.W.nsIn K mainGlobals "ValueError" = some none)
    {u0 : Value} (gc0 : PySem.W.nsIn K mainGlobals "GAP" = some (some u0)) (rc0 : RelV (.str (wd 0)) u0)
    {X0 X1 X2 X4 : Addr}
    (xa0 : PySem.W.nsIn K mainGlobals "KindError" = some (some (.ref X0))) (xk0 : PySem.W.keepIn K (.ref X0) = true) (xg0 : PySem.W.findIn K (.ref X0) "__getattribute__" = some (some (.builtin "BaseException.__getattribute__"))) (xh0 : PySem.W.findIn K (.ref X0) "__getattr__" = some none) (xs0 : PySem.W.subIn K (.ref X0) (.type "BaseException") = some true) (xd0 : PySem.W.hasDictIn K X0 = true) (xb0 : PySem.W.findIn K (.ref X0) "__class__" = some (some (.builtin "object.__class__"))) (xm0 : PySem.W.mroIn K X0 (.type "object") = some true) (xt0 : PySem.W.typeIn K (.ref X0) = some (.type "type")) (xv0 : PySem.W.subIn K (.ref X0) (.type "ValueError") = some true) (xn0 : PySem.W.subIn K (.type "NoneType") (.ref X0) = some false) (xe0 : PySem.W.excIn K X0 bmVE "ValueError.__new__" = true)
    (xa1 : PySem.W.nsIn K mainGlobals "NoJoin" = some (some (.ref X1))) (xk1 : PySem.W.keepIn K (.ref X1) = true) (xg1 : PySem.W.findIn K (.ref X1) "__getattribute__" = some (some (.builtin "BaseException.__getattribute__"))) (xh1 : PySem.W.findIn K (.ref X1) "__getattr__" = some none) (xs1 : PySem.W.subIn K (.ref X1) (.type "BaseException") = some true) (xd1 : PySem.W.hasDictIn K X1 = true) (xb1 : PySem.W.findIn K (.ref X1) "__class__" = some (some (.builtin "object.__class__"))) (xm1 : PySem.W.mroIn K X1 (.type "object") = some true) (xt1 : PySem.W.typeIn K (.ref X1) = some (.type "type")) (xv1 : PySem.W.subIn K (.ref X1) (.type "ValueError") = some true) (xn1 : PySem.W.subIn K (.type "NoneType") (.ref X1) = some false) (xe1 : PySem.W.excIn K X1 bmVE "ValueError.__new__" = true)
    (xa2 : PySem.W.nsIn K mainGlobals "NoKind" = some (some (.ref X2))) (xk2 : PySem.W.keepIn K (.ref X2) = true) (xg2 : PySem.W.findIn K (.ref X2) "__getattribute__" = some (some (.builtin "BaseException.__getattribute__"))) (xh2 : PySem.W.findIn K (.ref X2) "__getattr__" = some none) (xs2 : PySem.W.subIn K (.ref X2) (.type "BaseException") = some true) (xd2 : PySem.W.hasDictIn K X2 = true) (xb2 : PySem.W.findIn K (.ref X2) "__class__" = some (some (.builtin "object.__class__"))) (xm2 : PySem.W.mroIn K X2 (.type "object") = some true) (xt2 : PySem.W.typeIn K (.ref X2) = some (.type "type")) (xv2 : PySem.W.subIn K (.ref X2) (.type "ValueError") = some true) (xn2 : PySem.W.subIn K (.type "NoneType") (.ref X2) = some false) (xe2 : PySem.W.excIn K X2 bmVE "ValueError.__new__" = true)
    (xz3 : PySem.W.nsIn K mainGlobals "NoName" = some none)
    (xa4 : PySem.W.nsIn K mainGlobals "Stuck" = some (some (.ref X4))) (xk4 : PySem.W.keepIn K (.ref X4) = true) (xg4 : PySem.W.findIn K (.ref X4) "__getattribute__" = some (some (.builtin "BaseException.__getattribute__"))) (xh4 : PySem.W.findIn K (.ref X4) "__getattr__" = some none) (xs4 : PySem.W.subIn K (.ref X4) (.type "BaseException") = some true) (xd4 : PySem.W.hasDictIn K X4 = true) (xb4 : PySem.W.findIn K (.ref X4) "__class__" = some (some (.builtin "object.__class__"))) (xm4 : PySem.W.mroIn K X4 (.type "object") = some true) (xt4 : PySem.W.typeIn K (.ref X4) = some (.type "type")) (xv4 : PySem.W.subIn K (.ref X4) (.type "ValueError") = some true) (xn4 : PySem.W.subIn K (.type "NoneType") (.ref X4) = some false) (xe4 : PySem.W.excIn K X4 bmVE "ValueError.__new__" = true)
    (xp : PySem.W.specialIn K (.builtin "object.__class__") "__get__" = some (some (.builtin "getset_descriptor.__get__"))) (xq : PySem.W.takesIn K (.builtin "object.__class__") = some true)
    (y00 : PySem.W.subIn K (.ref X0) (.ref X0) = some true) (y01 : PySem.W.subIn K (.ref X0) (.ref X1) = some false) (y02 : PySem.W.subIn K (.ref X0) (.ref X2) = some false) (y04 : PySem.W.subIn K (.ref X0) (.ref X4) = some false) (y10 : PySem.W.subIn K (.ref X1) (.ref X0) = some true) (y11 : PySem.W.subIn K (.ref X1) (.ref X1) = some true) (y12 : PySem.W.subIn K (.ref X1) (.ref X2) = some false) (y14 : PySem.W.subIn K (.ref X1) (.ref X4) = some false) (y20 : PySem.W.subIn K (.ref X2) (.ref X0) = some true) (y21 : PySem.W.subIn K (.ref X2) (.ref X1) = some false) (y22 : PySem.W.subIn K (.ref X2) (.ref X2) = some true) (y24 : PySem.W.subIn K (.ref X2) (.ref X4) = some false) (y40 : PySem.W.subIn K (.ref X4) (.ref X0) = some true) (y41 : PySem.W.subIn K (.ref X4) (.ref X1) = some false) (y42 : PySem.W.subIn K (.ref X4) (.ref X2) = some false) (y44 : PySem.W.subIn K (.ref X4) (.ref X4) = some true) :
    ∃ fd : FuncData, (∀ (s : Shared) (v : Value), BindsTo s fd ⟨[v], []⟩ [("_law_script", v)]) ∧ ∀ base : Heap, K.In base → base.Ns mainGlobals mg → FnOk l.prog w K mg base (CXM false l.prog w) 231 fa fd ["_law_script"] (spF K false [false] (sem PD fuel depth 28)) := by
  have hd : ∀ f x, tb.fn f = some x → ∃ st, DefOk l.prog K mg tb PD f x st := by
    intro f x hf
    unfold tb at hf
    dsimp only at hf
    split at hf
    · obtain rfl := Option.some.inj hf; exact ⟨top 7, f0, _, ["kind", "told"], d0, rfl, fun_mk (st := top 7) l0 c0 k0, scp0, rfl, rfl, chk0, PySem.W.mg_of X G a0, (fun_mk (st := top 7) l0 c0 k0).binds (ps := ["kind", "told"]) fun _ _ _ _ _ _ us hl => match us, hl with | [_, _], _ => rfl⟩
    · obtain rfl := Option.some.inj hf; exact ⟨top 12, f4, _, ["_law_script", "_law_k"], d1, rfl, fun_mk (st := top 12) l4 c4 k4, scp4, rfl, rfl, chk4, PySem.W.mg_of X G a4, (fun_mk (st := top 12) l4 c4 k4).binds (ps := ["_law_script", "_law_k"]) fun _ _ _ _ _ _ us hl => match us, hl with | [_, _], _ => rfl⟩
    · obtain rfl := Option.some.inj hf; exact ⟨top 13, f5, _, ["_law_script", "_law_k"], d2, rfl, fun_mk (st := top 13) l5 c5 k5, scp5, rfl, rfl, chk5, PySem.W.mg_of X G a5, (fun_mk (st := top 13) l5 c5 k5).binds (ps := ["_law_script", "_law_k"]) fun _ _ _ _ _ _ us hl => match us, hl with | [_, _], _ => rfl⟩
    · obtain rfl := Option.some.inj hf; exact ⟨top 14, f6, _, ["_law_found"], d3, rfl, fun_mk (st := top 14) l6 c6 k6, scp6, rfl, rfl, chk6, PySem.W.mg_of X G a6, (fun_mk (st := top 14) l6 c6 k6).binds (ps := ["_law_found"]) fun _ _ _ _ _ _ us hl => match us, hl with | [_], _ => rfl⟩
    · obtain rfl := Option.some.inj hf; exact ⟨top 15, f7, _, ["_law_number"], d4, rfl, fun_mk (st := top 15) l7 c7 k7, scp7, rfl, rfl, chk7, PySem.W.mg_of X G a7, (fun_mk (st := top 15) l7 c7 k7).binds (ps := ["_law_number"]) fun _ _ _ _ _ _ us hl => match us, hl with | [_], _ => rfl⟩
    · obtain rfl := Option.some.inj hf; exact ⟨top 16, f8, _, ["_law_script", "_law_k", "_law_deep"], d5, rfl, fun_mk (st := top 16) l8 c8 k8, scp8, rfl, rfl, chk8, PySem.W.mg_of X G a8, (fun_mk (st := top 16) l8 c8 k8).binds (ps := ["_law_script", "_law_k", "_law_deep"]) fun _ _ _ _ _ _ us hl => match us, hl with | [_, _, _], _ => rfl⟩
    · obtain rfl := Option.some.inj hf; exact ⟨top 18, f10, _, ["_law_kind_here"], d7, rfl, fun_mk (st := top 18) l10 c10 k10, scp10, rfl, rfl, chk10, PySem.W.mg_of X G a10, (fun_mk (st := top 18) l10 c10 k10).binds (ps := ["_law_kind_here"]) fun _ _ _ _ _ _ us hl => match us, hl with | [_], _ => rfl⟩
    · obtain rfl := Option.some.inj hf; exact ⟨top 21, f13, _, ["_law_found"], d8, rfl, fun_mk (st := top 21) l13 c13 k13, scp13, rfl, rfl, chk13, PySem.W.mg_of X G a13, (fun_mk (st := top 21) l13 c13 k13).binds (ps := ["_law_found"]) fun _ _ _ _ _ _ us hl => match us, hl with | [_], _ => rfl⟩
    · obtain rfl := Option.some.inj hf; exact ⟨top 8, f1, _, ["kind"], d10, rfl, fun_mk (st := top 8) l1 c1 k1, scp1, rfl, rfl, chk1, PySem.W.mg_of X G a1, (fun_mk (st := top 8) l1 c1 k1).binds (ps := ["kind"]) fun _ _ _ _ _ _ us hl => match us, hl with | [_], _ => rfl⟩
    · obtain rfl := Option.some.inj hf; exact ⟨top 19, f11, _, ["_law_wide", "_law_kind_here"], d12, rfl, fun_mk (st := top 19) l11 c11 k11, scp11, rfl, rfl, chk11, PySem.W.mg_of X G a11, (fun_mk (st := top 19) l11 c11 k11).binds (ps := ["_law_wide", "_law_kind_here"]) fun _ _ _ _ _ _ us hl => match us, hl with | [_, _], _ => rfl⟩
    · obtain rfl := Option.some.inj hf; exact ⟨top 9, f2, _, ["one", "other"], d19, rfl, fun_mk (st := top 9) l2 c2 k2, scp2, rfl, rfl, chk2, PySem.W.mg_of X G a2, (fun_mk (st := top 9) l2 c2 k2).binds (ps := ["one", "other"]) fun _ _ _ _ _ _ us hl => match us, hl with | [_, _], _ => rfl⟩
    · obtain rfl := Option.some.inj hf; exact ⟨top 10, f3, _, ["told", "number", "kind"], d20, rfl, fun_mk (st := top 10) l3 c3 k3, scp3, rfl, rfl, chk3, PySem.W.mg_of X G a3, (fun_mk (st := top 10) l3 c3 k3).binds (ps := ["told", "number", "kind"]) fun _ _ _ _ _ _ us hl => match us, hl with | [_, _, _], _ => rfl⟩
    · obtain rfl := Option.some.inj hf; exact ⟨top 17, f9, _, ["_law_kind_here", "_law_told_here"], d21, rfl, fun_mk (st := top 17) l9 c9 k9, scp9, rfl, rfl, chk9, PySem.W.mg_of X G a9, (fun_mk (st := top 17) l9 c9 k9).binds (ps := ["_law_kind_here", "_law_told_here"]) fun _ _ _ _ _ _ us hl => match us, hl with | [_, _], _ => rfl⟩
    · obtain rfl := Option.some.inj hf; exact ⟨top 20, f12, _, ["_law_wide", "_law_kind_here"], d22, rfl, fun_mk (st := top 20) l12 c12 k12, scp12, rfl, rfl, chk12, PySem.W.mg_of X G a12, (fun_mk (st := top 20) l12 c12 k12).binds (ps := ["_law_wide", "_law_kind_here"]) fun _ _ _ _ _ _ us hl => match us, hl with | [_, _], _ => rfl⟩
    · obtain rfl := Option.some.inj hf; exact ⟨top 23, f15, _, ["_law_one", "_law_other"], d23, rfl, fun_mk (st := top 23) l15 c15 k15, scp15, rfl, rfl, chk15, PySem.W.mg_of X G a15, (fun_mk (st := top 23) l15 c15 k15).binds (ps := ["_law_one", "_law_other"]) fun _ _ _ _ _ _ us hl => match us, hl with | [_, _], _ => rfl⟩
    · obtain rfl := Option.some.inj hf; exact ⟨top 24, f16, _, ["_law_found", "_law_one", "_law_other"], d24, rfl, fun_mk (st := top 24) l16 c16 k16, scp16, rfl, rfl, chk16, PySem.W.mg_of X G a16, (fun_mk (st := top 24) l16 c16 k16).binds (ps := ["_law_found", "_law_one", "_law_other"]) fun _ _ _ _ _ _ us hl => match us, hl with | [_, _, _], _ => rfl⟩
    · obtain rfl := Option.some.inj hf; exact ⟨top 22, f14, _, ["_law_pairs_here"], d27, rfl, fun_mk (st := top 22) l14 c14 k14, scp14, rfl, rfl, chk14, PySem.W.mg_of X G a14, (fun_mk (st := top 22) l14 c14 k14).binds (ps := ["_law_pairs_here"]) fun _ _ _ _ _ _ us hl => match us, hl with | [_], _ => rfl⟩
    · obtain rfl := Option.some.inj hf; exact ⟨top 25, f17, _, ["_law_script"], d28, rfl, fun_mk (st := top 25) l17 c17 k17, scp17, rfl, rfl, chk17, PySem.W.mg_of X G a17, (fun_mk (st := top 25) l17 c17 k17).binds (ps := ["_law_script"]) fun _ _ _ _ _ _ us hl => match us, hl with | [_], _ => rfl⟩
    · cases hf
  have bl : ∀ x ∈ bltNames, mg x = none := by
    intro x hx
    simp only [bltNames, List.mem_cons, List.not_mem_nil, or_false] at hx
    rcases hx with rfl | rfl | rfl | rfl | rfl | rfl | rfl | rfl | rfl | rfl | rfl | rfl | rfl | rfl | rfl | rfl
    · exact PySem.W.mg_none_of X G z0
    · exact PySem.W.mg_none_of X G z1
    · exact PySem.W.mg_none_of X G z2
    · exact PySem.W.mg_none_of X G z3
    · exact PySem.W.mg_none_of X G z4
    · exact PySem.W.mg_none_of X G z5
    · exact PySem.W.mg_none_of X G z6
    · exact PySem.W.mg_none_of X G z7
    · exact PySem.W.mg_none_of X G z8
    · exact PySem.W.mg_none_of X G z9
    · exact PySem.W.mg_none_of X G z10
    · exact PySem.W.mg_none_of X G z11
    · exact PySem.W.mg_none_of X G z12
    · exact PySem.W.mg_none_of X G z13
    · exact PySem.W.mg_none_of X G z14
    · exact PySem.W.mg_none_of X G z15
  have gl : ∀ g x d, tb.gl g = some x → glD g = some d → ∃ u v, mg x = some u ∧ RelV v u ∧ Rep K (fun _ => none) d v := by
    intro g x d hg hv
    match g, hg with
    | 0, hg => obtain rfl := Option.some.inj hg; obtain rfl := Option.some.inj hv; exact ⟨_, _, PySem.W.mg_of X G gc0, rc0, by rw [Rep]; exact ⟨by decide, rfl⟩⟩
    | (n + 1), hg => cases hg
  have xf : tb.xs = true → XFacts tb.xc K mg := fun _ => by
    have un : ∀ c C, IsX K c C → (c = 0 ∧ C = X0) ∨ (c = 1 ∧ C = X1) ∨ (c = 2 ∧ C = X2) ∨ (c = 4 ∧ C = X4) := by
      intro c C h
      have l := h.1
      have : c = 0 ∨ c = 1 ∨ c = 2 ∨ c = 3 ∨ c = 4 := by omega
      rcases this with rfl | rfl | rfl | rfl | rfl
      · exact .inl ⟨rfl, h.inj ⟨by decide, xa0⟩⟩
      · exact .inr (.inl ⟨rfl, h.inj ⟨by decide, xa1⟩⟩)
      · exact .inr (.inr (.inl ⟨rfl, h.inj ⟨by decide, xa2⟩⟩))
      · exact absurd (h.2.symm.trans xz3) (fun z => nomatch z)
      · exact .inr (.inr (.inr (⟨rfl, h.inj ⟨by decide, xa4⟩⟩)))
    refine ⟨fun c C h => ?_, fun c hc => ?_, fun c d C D h g => ?_, fun c C h => ?_, fun c C h => ?_⟩
    · rcases un c C h with ⟨rfl, rfl⟩ | ⟨rfl, rfl⟩ | ⟨rfl, rfl⟩ | ⟨rfl, rfl⟩ <;> rfl
    · have l := hc.1
      have : c = 0 ∨ c = 1 ∨ c = 2 ∨ c = 3 ∨ c = 4 := by omega
      rcases this with rfl | rfl | rfl | rfl | rfl
      · exact ⟨X0, ⟨by decide, xa0⟩, PySem.W.mg_of X G xa0, xk0, ⟨xg0, xh0, xs0, xd0, xb0, xp, xq, xm0⟩, xt0, fun _ => xe0⟩
      · exact ⟨X1, ⟨by decide, xa1⟩, PySem.W.mg_of X G xa1, xk1, ⟨xg1, xh1, xs1, xd1, xb1, xp, xq, xm1⟩, xt1, fun _ => xe1⟩
      · exact ⟨X2, ⟨by decide, xa2⟩, PySem.W.mg_of X G xa2, xk2, ⟨xg2, xh2, xs2, xd2, xb2, xp, xq, xm2⟩, xt2, fun _ => xe2⟩
      · exact absurd hc.2 (by decide)
      · exact ⟨X4, ⟨by decide, xa4⟩, PySem.W.mg_of X G xa4, xk4, ⟨xg4, xh4, xs4, xd4, xb4, xp, xq, xm4⟩, xt4, fun _ => xe4⟩
    · rcases un c C h with ⟨rfl, rfl⟩ | ⟨rfl, rfl⟩ | ⟨rfl, rfl⟩ | ⟨rfl, rfl⟩ <;> rcases un d D g with ⟨rfl, rfl⟩ | ⟨rfl, rfl⟩ | ⟨rfl, rfl⟩ | ⟨rfl, rfl⟩
      · exact kit_sub xd0 xt0 y00
      · exact kit_sub xd1 xt1 y01
      · exact kit_sub xd2 xt2 y02
      · exact kit_sub xd4 xt4 y04
      · exact kit_sub xd0 xt0 y10
      · exact kit_sub xd1 xt1 y11
      · exact kit_sub xd2 xt2 y12
      · exact kit_sub xd4 xt4 y14
      · exact kit_sub xd0 xt0 y20
      · exact kit_sub xd1 xt1 y21
      · exact kit_sub xd2 xt2 y22
      · exact kit_sub xd4 xt4 y24
      · exact kit_sub xd0 xt0 y40
      · exact kit_sub xd1 xt1 y41
      · exact kit_sub xd2 xt2 y42
      · exact kit_sub xd4 xt4 y44
    · rcases un c C h with ⟨rfl, rfl⟩ | ⟨rfl, rfl⟩ | ⟨rfl, rfl⟩ | ⟨rfl, rfl⟩
      · exact kit_ve xv0
      · exact kit_ve xv1
      · exact kit_ve xv2
      · exact kit_ve xv4
    · rcases un c C h with ⟨rfl, rfl⟩ | ⟨rfl, rfl⟩ | ⟨rfl, rfl⟩ | ⟨rfl, rfl⟩
      · exact kit_sub xd0 xt0 xn0
      · exact kit_sub xd1 xt1 xn1
      · exact kit_sub xd2 xt2 xn2
      · exact kit_sub xd4 xt4 xn4
  refine ⟨PySem.W.fnOf "law" "law" (defArgs (top 25)) (defBody (top 25)) (defScope (top 25)) .none kV17 dc17 pm17 an17 cd17 ct17, fun s v => .of_eq rfl, fun base _ _ => ?_⟩
  have e := hfa.symm.trans (PySem.W.mg_of X G a17)
  cases e
  exact (fn_all (T := tb) (CT := false) gl bl xf (fun _ => rfl) hd depth 28 "law" _ _ _ d28 (top 25) rfl (fun_mk (st := top 25) l17 c17 k17) scp17 rfl rfl chk17).ok (by decide) (by decide)
theorem walk {l : PySem.W.OpenLaw} {q : Program} {loose : List Str} {XP : (Str → Option Value) → Heap → Prop} {YP : World → Heap → Prop} {d : DefRec} {K : Params → PySem.W.Frag} (hn : l.most = some 63) (hdf : d.params.defaults = [])
    (hY : ∀ (w : World) (h : Heap), YP w h → (K w.params).In h)
    (F : ∀ (w : World) (mg : Str → Option Value) (fa : Addr) (h : Heap), (K w.params).In h → h.Ns mainGlobals mg → mg d.name = some (.ref fa) →
      ∃ fd : FuncData, (∀ (s : Shared) (u : Value), BindsTo s fd ⟨[u], []⟩ [("_law_script", u)]) ∧ ∀ base : Heap, (K w.params).In base → base.Ns mainGlobals mg → FnOk l.prog w (K w.params) mg base (CXM false l.prog w) 231 fa fd ["_law_script"] (spF (K w.params) false [false] (sem PD fuel depth 28))) :
    PySem.W.WalkO q loose XP YP l.row.toRowW d [] (fun f vs => PySem.call f vs) :=
  L2.walk_of (n := 63) (k := 231) (x := "_law_script") (CX := fun w => CXM false l.prog w) (sp := fun w => spF (K w.params) false [false] (sem PD fuel depth 28)) hn (by decide) hdf ⟨rfl, by decide, by decide⟩ hY F (fun w H a ns hl _ hS => law_sp hS (law_true ns hl)) fun _ _ _ _ _ z => no_cx (CT := false) z
end K11
open PySem PySem.W PyProof.Rows
set_option maxRecDepth 100000 in
set_option maxHeartbeats 0 in
theorem PySem.Challenge.cw_kindspan_k11_no_join_holds : PySem.Challenge.rw_kindspan_k11_no_join.Holds := by
  w_on; o_law; k_head; (case hw => w_witness2)
  k_fill
  refine K11.walk (l := PySem.Challenge.rw_kindspan_k11_no_join) rfl rfl (fun w h Y => PySem.W.kIn_of Y) ?F
  case F =>
    intro w mg fa h KX G hmg
    refine' K11.all_mk KX G hmg ?a0 ?l0 ?c0 ?k0 ?a1 ?l1 ?c1 ?k1 ?a2 ?l2 ?c2 ?k2 ?a3 ?l3 ?c3 ?k3 ?a4 ?l4 ?c4 ?k4 ?a5 ?l5 ?c5 ?k5 ?a6 ?l6 ?c6 ?k6 ?a7 ?l7 ?c7 ?k7 ?a8 ?l8 ?c8 ?k8 ?a9 ?l9 ?c9 ?k9 ?a10 ?l10 ?c10 ?k10 ?a11 ?l11 ?c11 ?k11 ?a12 ?l12 ?c12 ?k12 ?a13 ?l13 ?c13 ?k13 ?a14 ?l14 ?c14 ?k14 ?a15 ?l15 ?c15 ?k15 ?a16 ?l16 ?c16 ?k16 ?a17 ?l17 ?c17 ?k17 ?z0 ?z1 ?z2 ?z3 ?z4 ?z5 ?z6 ?z7 ?z8 ?z9 ?z10 ?z11 ?z12 ?z13 ?z14 ?z15 ?gc0 ?rc0 ?xa0 ?xk0 ?xg0 ?xh0 ?xs0 ?xd0 ?xb0 ?xm0 ?xt0 ?xv0 ?xn0 ?xe0 ?xa1 ?xk1 ?xg1 ?xh1 ?xs1 ?xd1 ?xb1 ?xm1 ?xt1 ?xv1 ?xn1 ?xe1 ?xa2 ?xk2 ?xg2 ?xh2 ?xs2 ?xd2 ?xb2 ?xm2 ?xt2 ?xv2 ?xn2 ?xe2 ?xz3 ?xa4 ?xk4 ?xg4 ?xh4 ?xs4 ?xd4 ?xb4 ?xm4 ?xt4 ?xv4 ?xn4 ?xe4 ?xp ?xq ?y00 ?y01 ?y02 ?y04 ?y10 ?y11 ?y12 ?y14 ?y20 ?y21 ?y22 ?y24 ?y40 ?y41 ?y42 ?y44
    (case a0 => k_is); (case l0 => k_is); (case c0 => k_is); (case k0 => k_is)
    (case a1 => k_is); (case l1 => k_is); (case c1 => k_is); (case k1 => k_is)
    (case a2 => k_is); (case l2 => k_is); (case c2 => k_is); (case k2 => k_is)
    (case a3 => k_is); (case l3 => k_is); (case c3 => k_is); (case k3 => k_is)
    (case a4 => k_is); (case l4 => k_is); (case c4 => k_is); (case k4 => k_is)
    (case a5 => k_is); (case l5 => k_is); (case c5 => k_is); (case k5 => k_is)
    (case a6 => k_is); (case l6 => k_is); (case c6 => k_is); (case k6 => k_is)
    (case a7 => k_is); (case l7 => k_is); (case c7 => k_is); (case k7 => k_is)
    (case a8 => k_is); (case l8 => k_is); (case c8 => k_is); (case k8 => k_is)
    (case a9 => k_is); (case l9 => k_is); (case c9 => k_is); (case k9 => k_is)
    (case a10 => k_is); (case l10 => k_is); (case c10 => k_is); (case k10 => k_is)
    (case a11 => k_is); (case l11 => k_is); (case c11 => k_is); (case k11 => k_is)
    (case a12 => k_is); (case l12 => k_is); (case c12 => k_is); (case k12 => k_is)
    (case a13 => k_is); (case l13 => k_is); (case c13 => k_is); (case k13 => k_is)
    (case a14 => k_is); (case l14 => k_is); (case c14 => k_is); (case k14 => k_is)
    (case a15 => k_is); (case l15 => k_is); (case c15 => k_is); (case k15 => k_is)
    (case a16 => k_is); (case l16 => k_is); (case c16 => k_is); (case k16 => k_is)
    (case a17 => k_is); (case l17 => k_is); (case c17 => k_is); (case k17 => k_is)
    (case z0 => k_is)
    (case z1 => k_is)
    (case z2 => k_is)
    (case z3 => k_is)
    (case z4 => k_is)
    (case z5 => k_is)
    (case z6 => k_is)
    (case z7 => k_is)
    (case z8 => k_is)
    (case z9 => k_is)
    (case z10 => k_is)
    (case z11 => k_is)
    (case z12 => k_is)
    (case z13 => k_is)
    (case z14 => k_is)
    (case z15 => k_is)
    (case gc0 => k_is); (case rc0 => exact ⟨_, rfl⟩)
    (case xa0 => k_is); (case xk0 => k_is); (case xg0 => k_is); (case xh0 => k_is); (case xs0 => k_is); (case xd0 => k_is); (case xb0 => k_is); (case xm0 => k_is); (case xt0 => k_is); (case xv0 => k_is); (case xn0 => k_is); (case xe0 => k_exc)
    (case xa1 => k_is); (case xk1 => k_is); (case xg1 => k_is); (case xh1 => k_is); (case xs1 => k_is); (case xd1 => k_is); (case xb1 => k_is); (case xm1 => k_is); (case xt1 => k_is); (case xv1 => k_is); (case xn1 => k_is); (case xe1 => k_exc)
    (case xa2 => k_is); (case xk2 => k_is); (case xg2 => k_is); (case xh2 => k_is); (case xs2 => k_is); (case xd2 => k_is); (case xb2 => k_is); (case xm2 => k_is); (case xt2 => k_is); (case xv2 => k_is); (case xn2 => k_is); (case xe2 => k_exc)
    (case xz3 => k_is)
    (case xa4 => k_is); (case xk4 => k_is); (case xg4 => k_is); (case xh4 => k_is); (case xs4 => k_is); (case xd4 => k_is); (case xb4 => k_is); (case xm4 => k_is); (case xt4 => k_is); (case xv4 => k_is); (case xn4 => k_is); (case xe4 => k_exc)
    (case xp => k_is); (case xq => k_is)
    (case y00 => k_is); (case y01 => k_is); (case y02 => k_is); (case y04 => k_is)
    (case y10 => k_is); (case y11 => k_is); (case y12 => k_is); (case y14 => k_is)
    (case y20 => k_is); (case y21 => k_is); (case y22 => k_is); (case y24 => k_is)
    (case y40 => k_is); (case y41 => k_is); (case y42 => k_is); (case y44 => k_is)
#print axioms PySem.Challenge.cw_kindspan_k11_no_join_holds

