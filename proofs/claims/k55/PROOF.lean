import PyProof.Rows.All
import Wide.All
import OpenK.AllK
import Wide.FinOn
import HandS.ForMost
import HandS.ForExc
import HandS.Wide
import HandS.Deep
import HandS.Flow
import HandS.TupAny
import HandS.TupMul
import HandS.IsInst
import HandS.Zip
import HandS.Slots
import HandS.SlotsOwn
import HandS.Conv
import HandS.DictComp
import KE.SortData
import KE.DataCmp
import KE.KIntText
import KE.KDictSum
import HandS.More
import HandS.CallSlots
import HandS.Property
import HandS.Star
import KE.GoesMore
import KE.GoesEnum
import HandS.NoneIn
import KE.DataMinMax
import KE.KDictList
import KE.KDictZip
import KE.GoesZip
import HandS.Style
import HandS.Defaults
import HandS.EndBits
import HandS.Head0
import HandS.Head1
import HandS.Head2
import HandS.HeadEnd
import HandS.HeadHook1
import HandS.HeadHook2
import HandS.HeadNt
import PySem.Challenge.RW_orderplaced_k55_placings
set_option Elab.async false
set_option linter.all false
set_option maxRecDepth 100000
set_option maxHeartbeats 4000000
section
/-! Mi: a small language with a total interpreter over plain data; its words are the AST's, names are numbers. -/
namespace Mi
open PySem L2

/-! ### data -/
inductive D where
  | non | bl (b : Bool) | int (i : Int) | str (x : Str)
  | tup (xs : List D) | lst (xs : List D) | dct (kvs : List (Key × D))
  | obj (c : Nat) (fs : List D) | fn (i : Nat) | exn (c : Nat) (fs : List D)
  /-- a list that no one changes, of whom only its items are known -/
  | scr (xs : List D)
deriving Inhabited

mutual
def D.py : D → PyData
  | .non => .none | .bl b => .bool b | .int i => .int i | .str x => .str x
  | .tup xs => .tuple (pyL xs) | .lst xs => .list (pyL xs)
  | .dct _ => .none | .obj _ _ => .none | .fn _ => .none | .exn _ _ => .none | .scr _ => .none
def pyL : List D → List PyData
  | [] => []
  | x :: xs => x.py :: pyL xs
end

/-- plain data, at most n levels deep -/
def D.fit : Nat → D → Bool
  | _, .non => true | _, .bl _ => true | _, .int _ => true | _, .str _ => true
  | n + 1, .tup xs => xs.all (D.fit n) | n + 1, .lst xs => xs.all (D.fit n)
  | 0, .tup _ => false | 0, .lst _ => false
  | _, .dct _ => false | _, .obj _ _ => false | _, .fn _ => false | _, .exn _ _ => false | _, .scr _ => false

mutual
def D.eqb : D → D → Bool
  | .non, b => match b with | .non => true | _ => false
  | .bl a, b => match b with | .bl c => a == c | .int j => (if a then 1 else 0) == j | _ => false
  | .int i, b => match b with | .int j => i == j | .bl c => i == (if c then 1 else 0) | _ => false
  | .str x, b => match b with | .str y => x == y | _ => false
  | .tup xs, b => match b with | .tup ys => eqbL xs ys | _ => false
  | .lst xs, b => match b with | .lst ys => eqbL xs ys | _ => false
  | .dct _, _ => false | .obj _ _, _ => false | .fn _, _ => false | .exn _ _, _ => false | .scr _, _ => false
def eqbL : List D → List D → Bool
  | [], [] => true
  | x :: xs, y :: ys => D.eqb x y && eqbL xs ys
  | [], _ :: _ => false
  | _ :: _, [] => false
end
mutual
def D.alk : D → D → Bool
  | .non, b => match b with | .non => true | _ => false
  | .bl _, b => match b with | .bl _ => true | _ => false
  | .int _, b => match b with | .int _ => true | _ => false
  | .str _, b => match b with | .str _ => true | _ => false
  | .tup xs, b => match b with | .tup ys => alkL xs ys | _ => false
  | .lst xs, b => match b with | .lst ys => alkL xs ys | _ => false
  | .dct _, _ => false | .obj _ _, _ => false | .fn _, _ => false | .exn _ _, _ => false | .scr _, _ => false
def alkL : List D → List D → Bool
  | x :: xs, y :: ys => D.alk x y && alkL xs ys
  | [], _ => true
  | _ :: _, [] => true
end
mutual
/-- a < b of alike data -/
def D.ltb : D → D → Bool
  | .bl a, b => match b with | .bl c => !a && c | _ => false
  | .int i, b => match b with | .int j => decide (i < j) | _ => false
  | .str x, b => match b with | .str y => decide (x.cps.toList < y.cps.toList) | _ => false
  | .tup xs, b => match b with | .tup ys => ltbL xs ys | _ => false
  | .lst xs, b => match b with | .lst ys => ltbL xs ys | _ => false
  | .non, _ => false | .dct _, _ => false | .obj _ _, _ => false | .fn _, _ => false | .exn _ _, _ => false | .scr _, _ => false
def ltbL : List D → List D → Bool
  | [], [] => false
  | [], _ :: _ => true
  | _ :: _, [] => false
  | x :: xs, y :: ys => if D.eqb x y = true then ltbL xs ys else D.ltb x y
end
def deep : Nat := 40
def eqD (a b : D) : Option Bool := if a.fit deep && b.fit deep then some (a.eqb b) else none
def D.isNon : D → Bool | .non => true | _ => false
def ltD (a b : D) : Option Bool := if a.fit deep && b.fit deep && a.alk b && !a.isNon then some (a.ltb b) else none
/-- a and b may be put in order, either way about -/
def ordD (a b : D) : Bool := a.fit deep && b.fit deep && a.alk b && b.alk a && !a.isNon && !b.isNon
def leG (a b : D) : Option Bool := if ordD a b then some (!b.ltb a) else none
def gtG (a b : D) : Option Bool := if ordD a b then some (b.ltb a) else none
def leD (a b : D) : Option Bool := match a with
  | .int i => match b with | .int j => some (decide (i ≤ j)) | _ => leG a b
  | .str x => match b with | .str y => some (!decide (y.cps.toList < x.cps.toList)) | _ => leG a b
  | _ => leG a b
def gtD (a b : D) : Option Bool := match a with
  | .int i => match b with | .int j => some (decide (j < i)) | _ => gtG a b
  | .str x => match b with | .str y => some (decide (y.cps.toList < x.cps.toList)) | _ => gtG a b
  | _ => gtG a b
theorem leD_cases {a b : D} {d : Bool} (h : leD a b = some d) : (∃ i j, a = .int i ∧ b = .int j ∧ d = decide (i ≤ j)) ∨ (∃ x y, a = .str x ∧ b = .str y ∧ d = !decide (y.cps.toList < x.cps.toList)) ∨ leG a b = some d := by
  unfold leD at h
  split at h
  · split at h
    · exact .inl ⟨_, _, rfl, rfl, (Option.some.inj h).symm⟩
    · exact .inr (.inr h)
  · split at h
    · exact .inr (.inl ⟨_, _, rfl, rfl, (Option.some.inj h).symm⟩)
    · exact .inr (.inr h)
  · exact .inr (.inr h)
theorem gtD_cases {a b : D} {d : Bool} (h : gtD a b = some d) : (∃ i j, a = .int i ∧ b = .int j ∧ d = decide (j < i)) ∨ (∃ x y, a = .str x ∧ b = .str y ∧ d = decide (y.cps.toList < x.cps.toList)) ∨ gtG a b = some d := by
  unfold gtD at h
  split at h
  · split at h
    · exact .inl ⟨_, _, rfl, rfl, (Option.some.inj h).symm⟩
    · exact .inr (.inr h)
  · split at h
    · exact .inr (.inl ⟨_, _, rfl, rfl, (Option.some.inj h).symm⟩)
    · exact .inr (.inr h)
  · exact .inr (.inr h)

/-! ### slots -/
/-- what a slot holds: nothing, a value (never changed any more), a list or a dict of the def's own (no one else has it); a list that is walked -/
inductive P where
  | un | val (d : D) | ml (xs : List D) | md (kvs : List (Key × D)) | lk (xs : List D)
  /-- an object that is being made: its class, its fields so far -/
  | ob (c : Nat) (fs : List (Option D))
deriving Inhabited
abbrev En := List P

inductive R (α : Type) where
  | ok (a : α) (e : En) | ex (x : D) (e : En) | no
deriving Inhabited
def R.bind {α β : Type} (r : R α) (f : α → En → R β) : R β := match r with | .ok a e => f a e | .ex x e => .ex x e | .no => .no
def lift {α : Type} (o : Option α) (e : En) : R α := match o with | some a => .ok a e | none => .no
/-- nothing may leave by an exception -/
def R.calm {α : Type} : R α → R α | .ok a e => .ok a e | _ => .no

/-! ### the language -/
inductive Bi where
  | len | tuple | list | int | str | abs | all | any | sum | sorted | max1 | min1 | max2 | min2
deriving DecidableEq
inductive Mt where
  | join | split | index
deriving DecidableEq
/-- words of several words: their parts are values, what they tell is plain -/
inductive Px where
  | dnew | dict | dzip | maxd | mind | rev | rng1 | rng2 | tvals | lvals | svals | maxv | titems | litems | sitems | tkeys | sset | lset
deriving DecidableEq
/-- what a class has under a name -/
inductive At where
  | fld (k : Nat) | prop (i : Nat) | meth (i : Nat)
inductive Ty where
  | int | bool | str | list | tuple | cls (c : Nat)
deriving DecidableEq
inductive Tg where
  | n (i : Nat) | t (is : List Nat)
mutual
inductive M where
  | k (d : D) | v (i : Nat) | g (x : Nat)
  | neg (a : M) | not (a : M) | bop (o : Operator) (a b : M)
  | bool (and : Bool) (es : Ms)
  | cmp (a : M) (o : CmpOp) (b : M) | cmp2 (a : M) (o : CmpOp) (b : M) (p : CmpOp) (c : M)
  | ite (t a b : M)
  | tup (es : Ms) | lst (es : Ms)
  | comp (own : List Nat) (elt : M) (tg : Tg) (it : It) (ifs : Ms)
  | call (f : Nat) (as : Ms)
  | callk (f : Nat) (as : Ms) (ks : List Nat)
  | bi (b : Bi) (as : Ms) | mt (m : Mt) (o : M) (as : Ms)
  | sub (o i : M) | sl (o : M) (lo hi : Ms)
  | isi (o : M) (ts : List Ty)
  | bsub (i : Nat) (a : M) | blen (i : Nat) | bin (neg : Bool) (a : M) (i : Nat) | bcmp (i : Nat) (o : CmpOp) (a : M)
  | pop (i : Nat) (a : Ms)
  | px (o : Px) (as : Ms)
  | attr (o : M) (x : Nat) | meth (o : M) (x : Nat) (as : Ms) | olen (o : M) | oin (neg : Bool) (a o : M)
  | dcomp (own : List Nat) (k v : M) (tg : Tg) (it : It) (ifs : Ms)
  | comp2 (own own2 : List Nat) (elt : M) (tg : Tg) (it : It) (ifs : Ms) (tg2 : Tg) (it2 : It) (ifs2 : Ms)
inductive Ms where
  | nil | cons (star : Bool) (a : M) (r : Ms)
inductive It where
  | e (a : M) | b (i : Nat) | rng (as : Ms) | enum (a : M) | zip (as : Ms)
end
mutual
inductive S where
  | e (a : M) | asg (i : Nat) (a : M) | asgT (is : List Nat) (a : M) | asgP (is : List Nat) (as : Ms)
  | setI (i : Nat) (ix a : M) | setA (i : Nat) (x : Nat) (a : M) | app (i : Nat) (a : M) | ext (i : Nat) (a : M)
  | ret (a : M) | retN | pass | brk | cont
  | ife (t : M) (a b : Ss) | for (tg : Tg) (it : It) (b : Ss) | whl (t : M) (b : Ss)
  | raise (c : Nat) (as : Ms) | doc
inductive Ss where
  | nil | cons (s : S) (r : Ss)
end

structure Cfg where
  /-- a call: the parameters' slots in, a value and these slots out -/
  cf : Nat → List P → R D
  /-- the first parameter of f may be changed by f -/
  io : Nat → Bool
  /-- f hands back a list of its own -/
  own : Nat → Bool
  /-- the module's constants -/
  gl : Nat → Option D
  /-- slots of this def that keep a list as its own -/
  mu : Nat → Bool
  /-- parameters that were lent to this def -/
  lent : Nat → Bool
  /-- this def hands back a list of its own -/
  mine : Bool
  /-- most turns of a while -/
  turns : Nat
  /-- what the class j has under the name x -/
  at_ : Nat → Nat → Option At

/-! ### operations on data -/
def bopD : Operator → D → D → Option D
  | .Add, .int a, .int b => some (.int (a + b))
  | .Add, .str a, .str b => if a.length + b.length ≤ sizeLine then some (.str (a ++ b)) else none
  | .Add, .lst a, .lst b => if a.length + b.length ≤ sizeLine then some (.lst (a ++ b)) else none
  | .Add, .tup a, .tup b => if a.length + b.length ≤ sizeLine then some (.tup (a ++ b)) else none
  | .Sub, .int a, .int b => some (.int (a - b))
  | .Mult, .int a, .int b => if a.natAbs.log2 + b.natAbs.log2 < 100000000 then some (.int (a * b)) else none
  | .Mult, .lst a, .int k => if 0 ≤ k ∧ k < 1000000 ∧ a.length * k.toNat ≤ sizeLine then some (.lst (List.replicate k.toNat a).flatten) else none
  | .Mult, .tup a, .int k => if a ≠ [] ∧ 2 ≤ k ∧ k ≤ 1000 ∧ a.length ≤ 1000 then some (.tup (List.replicate k.toNat a).flatten) else none
  | .FloorDiv, .int a, .int b => if 0 < b ∧ b.natAbs.log2 < 9000 then some (.int (a / b)) else none
  | .Mod, .int a, .int b => if 0 < b then some (.int (a % b)) else none
  | .Pow, .int a, .int b => if 0 ≤ b ∧ b ≤ 1000000 ∧ a.natAbs < 18446744073709551616 then some (.int (a ^ b.toNat)) else none
  | _, _, _ => none

/-- what a for walks -/
def D.items : D → Option (List D)
  | .lst xs => some xs | .tup xs => some xs | .scr xs => some xs
  | .str z => some (z.cps.toList.map fun c => .str ⟨#[c]⟩)
  | _ => none
def kD : Key → D | .inl i => .int i | .inr s => .str s
def keyD : D → Option Key | .int i => some (.inl i) | .str s => some (.inr s) | _ => none
def hasK : List (Key × D) → Key → Bool
  | [], _ => false
  | p :: r, k => if p.1 = k then true else hasK r k
def inD (a : D) : D → Option Bool
  | .lst xs => if a.fit deep && (D.lst xs).fit deep then some (xs.any fun x => x.eqb a) else none
  | .tup xs => if a.fit deep && (D.tup xs).fit deep then some (xs.any fun x => x.eqb a) else none
  | .str z => match a with | .str y => some (!(Builtin.Str.occurrences z y 0 z.length 1).isEmpty) | _ => none
  | .dct kvs => match keyD a with | some k => some (hasK kvs k) | none => none
  | _ => none
def cmpD : CmpOp → D → D → Option Bool
  | .Eq, a, b => eqD a b
  | .NotEq, a, b => (eqD a b).map (!·)
  | .Lt, a, b => ltD a b
  | .Gt, a, b => gtD a b
  | .LtE, a, b => leD a b
  | .GtE, a, b => leD b a
  | .In, a, b => inD a b
  | .NotIn, a, b => (inD a b).map (!·)
  | .Is, a, .non => some a.isNon
  | .IsNot, a, .non => some (!a.isNon)
  | _, _, _ => none
def tru : D → Option Bool
  | .non => some false | .bl b => some b | .int i => some (i != 0)
  | .str x => if x.length ≤ sizeLine then some (x.length != 0) else none
  | .tup xs => some (!xs.isEmpty) | .lst xs => some (!xs.isEmpty) | .dct xs => some (!xs.isEmpty)
  | _ => none
def ins (x : D) : List D → List D
  | [] => [x]
  | y :: ys => if x.ltb y then x :: y :: ys else y :: ins x ys
/-- sorted, the elder of equal ones first -/
def isort : List D → List D → List D
  | acc, [] => acc
  | acc, x :: xs => isort (ins x acc) xs
def allAlk (xs : List D) : Bool := xs.all fun x => xs.all fun y => x.alk y
def sortable (xs : List D) : Bool :=
  xs.all (fun x => match x with | .tup (_ :: _) => true | _ => false) || xs.all (fun x => match x with | .tup _ => false | .non => false | _ => true)
def sortD (xs : List D) : Option (List D) := if xs.all (·.fit deep) && allAlk xs && sortable xs then some (isort [] xs) else none
def bools : List D → Option (List Bool)
  | [] => some []
  | .bl b :: r => (bools r).map (b :: ·)
  | _ :: _ => none
def intsD : List D → Option (List Int)
  | [] => some []
  | .int b :: r => (intsD r).map (b :: ·)
  | _ :: _ => none
def strsD : List D → Option (List Str)
  | [] => some []
  | .str b :: r => (strsD r).map (b :: ·)
  | _ :: _ => none
def seqD : D → Option (List D) | .lst xs => some xs | .tup xs => some xs | _ => none
def maxI : Int → List Int → Int | m, [] => m | m, x :: xs => maxI (if x > m then x else m) xs
def minI : Int → List Int → Int | m, [] => m | m, x :: xs => minI (if x < m then x else m) xs
def putD (kvs : List (Key × D)) (k : Key) (d : D) : List (Key × D) :=
  if (kvs.any fun kv => decide (kv.1 = k)) = true then kvs.map fun kv => if kv.1 = k then (kv.1, d) else kv else kvs ++ [(k, d)]
/-- pairs, one behind another, put into a dict -/
def putAllD (kvs : List (Key × D)) : List (Key × D) → List (Key × D)
  | [] => kvs
  | p :: r => putAllD (putD kvs p.1 p.2) r
def pairKs : List D → Option (List (Key × D))
  | [] => some []
  | .tup [k, v] :: r => (match keyD k with | some k => (pairKs r).map ((k, v) :: ·) | none => none)
  | _ :: _ => none
def zipKs : List D → List D → Option (List (Key × D))
  | x :: xs, y :: ys => (match keyD x with | some k => (zipKs xs ys).map ((k, y) :: ·) | none => none)
  | _, _ => some []
/-- the keys, all of them texts -/
def strKeys : List (Key × D) → Option (List Str)
  | [] => some []
  | (.inr s, _) :: r => (strKeys r).map (s :: ·)
  | (.inl _, _) :: _ => none
def biD : Bi → List D → Option D
  | .len, [.lst xs] => some (.int xs.length)
  | .len, [.tup xs] => some (.int xs.length)
  | .len, [.dct xs] => some (.int xs.length)
  | .len, [.scr xs] => some (.int xs.length)
  | .len, [.str x] => if x.length ≤ sizeLine then some (.int x.length) else none
  | .tuple, [.lst xs] => some (.tup xs)
  | .tuple, [.tup xs] => some (.tup xs)
  | .list, [.lst xs] => some (.lst xs)
  | .list, [.tup xs] => some (.lst xs)
  | .int, [.int i] => some (.int i)
  | .int, [.bl b] => some (.int (if b then 1 else 0))
  | .int, [.str x] => if x.length ≤ 640 then (PySem.intText? x).map .int else none
  | .str, [.int i] => if 0 ≤ i ∧ i.natAbs.log2 < 1920 then some (.str ⟨((Nat.toDigits 10 i.toNat).map Char.toNat).toArray⟩) else none
  | .abs, [.int i] => some (.int (if i < 0 then -i else i))
  | .all, [.lst xs] => (bools xs).map fun bs => .bl (bs.all id)
  | .any, [.lst xs] => (bools xs).map fun bs => .bl (bs.any id)
  | .sum, [.lst xs] => (intsD xs).map fun ns => .int ns.sum
  | .sorted, [.lst xs] => (sortD xs).map .lst
  | .sorted, [.dct kvs] => (match strKeys kvs with | some ks => if ks.length < 64 then some (.lst (isort [] (ks.map .str))) else none | none => none)
  | .tuple, [.dct kvs] => if kvs.length ≤ 1000 then some (.tup (kvs.map fun p => kD p.1)) else none
  | .list, [.dct kvs] => if kvs.length ≤ 1000 then some (.lst (kvs.map fun p => kD p.1)) else none
  | .max1, [.lst xs] => match intsD xs with | some (n :: ns) => some (.int (maxI n ns)) | _ => none
  | .min1, [.lst xs] => match intsD xs with | some (n :: ns) => some (.int (minI n ns)) | _ => none
  | .max2, [.int a, .int b] => some (.int (if b > a then b else a))
  | .min2, [.int a, .int b] => some (.int (if b < a then b else a))
  | _, _ => none
def rngI (a b : Int) : List D := (List.range (b - a).toNat).map fun k => .int (a + (k : Nat))
def bigR : Int := 1000000
def pxD : Px → List D → Option D
  | .dnew, [] => some (.dct [])
  | .dict, [.dct kvs] => some (.dct kvs)
  | .dict, [.lst xs] => (pairKs xs).map fun kvs => .dct (putAllD [] kvs)
  | .dzip, [.lst xs, .lst ys] => (zipKs xs ys).map fun kvs => .dct (putAllD [] kvs)
  | .dzip, [.tup xs, .lst ys] => (zipKs xs ys).map fun kvs => .dct (putAllD [] kvs)
  | .dzip, [.lst xs, .tup ys] => (zipKs xs ys).map fun kvs => .dct (putAllD [] kvs)
  | .dzip, [.tup xs, .tup ys] => (zipKs xs ys).map fun kvs => .dct (putAllD [] kvs)
  | .maxd, [.lst xs, d] => (match intsD xs with | some (n :: ns) => some (.int (maxI n ns)) | some [] => some d | none => none)
  | .rng1, [.int j] => if -bigR ≤ j ∧ j < bigR then some (.lst (rngI 0 j)) else none
  | .rng2, [.int i, .int j] => if -bigR ≤ i ∧ i < bigR ∧ -bigR ≤ j ∧ j < bigR then some (.lst (rngI i j)) else none
  | .tvals, [.dct kvs] => if kvs.length ≤ 1000 then some (.tup (kvs.map (·.2))) else none
  | .lvals, [.dct kvs] => if kvs.length ≤ 1000 then some (.lst (kvs.map (·.2))) else none
  | _, _ => none
/-- a new list or dict -/
def pxFr : Px → Bool
  | .dnew => true | .dict => true | .dzip => true | .rng1 => true | .rng2 => true | .lvals => true | .litems => true | .sitems => true | .sset => true
  | _ => false
def idxD (xs : List D) (y : D) : Option Nat := xs.findIdx? fun x => x.eqb y
def mtD : Mt → D → List D → Option D
  | .join, .str a, [b] => ((seqD b).bind strsD).bind fun ys => if (ys.map (·.length)).sum + ys.length * a.length ≤ 16777216 then some (.str (Txt.join a ys)) else none
  | .split, .str a, [.str b] => if (b.length == 0) = false ∧ a.length + 2 ≤ sizeLine then some (.lst ((Txt.split a b).map .str)) else none
  | .index, .lst xs, [y] => if (D.lst xs).fit deep && y.fit deep then (idxD xs y).map fun j => .int (j : Nat) else none
  | _, _, _ => none
def lookK : List (Key × D) → Key → Option D
  | [], _ => none
  | p :: r, k => if p.1 = k then some p.2 else lookK r k
def subD : D → D → Option D
  | .lst xs, .int i => atI xs i
  | .tup xs, .int i => atI xs i
  | .str z, .int i => if z.length ≤ sizeLine then (atI z.cps.toList i).map fun c => .str ⟨#[c]⟩ else none
  | .scr xs, .int i => atI xs i
  | .dct kvs, .int i => lookK kvs (.inl i)
  | .dct kvs, .str s => lookK kvs (.inr s)
  | _, _ => none
def cutD {α : Type} (xs : List α) (lo hi : Option Int) : List α := (xs.drop (HT.sIx xs.length 0 lo)).take (HT.sIx xs.length xs.length hi - HT.sIx xs.length 0 lo)
def slD : D → Option Int → Option Int → Option D
  | .lst xs, lo, hi => some (.lst (cutD xs lo hi))
  | .tup xs, lo, hi => some (.tup (cutD xs lo hi))
  | .scr xs, lo, hi => some (.lst (cutD xs lo hi))
  | .str z, lo, hi => if z.length ≤ sizeLine then some (.str (cutS z lo hi)) else none
  | _, _, _ => none
def isTy : D → Ty → Bool
  | .int _, .int => true | .bl _, .int => true | .bl _, .bool => true | .str _, .str => true
  | .lst _, .list => true | .tup _, .tuple => true | .obj c _, .cls d => c == d
  | _, _ => false
def isDat : D → Bool
  | .non => true | .bl _ => true | .int _ => true | .str _ => true | .lst _ => true | .tup _ => true | _ => false
def isiD (d : D) (ts : List Ty) : Option D := if isDat d then some (.bl (ts.any (isTy d))) else none
/-- a new list, told by the outermost word -/
def M.fresh1 (own : Nat → Bool) : M → Bool
  | .lst _ => true | .comp _ _ _ _ _ => true
  | .bi .list _ => true | .bi .sorted _ => true
  | .call f _ => own f | .callk f _ _ => own f
  | .px o _ => pxFr o | .dcomp _ _ _ _ _ _ => true | .comp2 _ _ _ _ _ _ _ _ _ => true
  | _ => false
/-- a new list: expressions whose value no one else has -/
def M.fresh (own : Nat → Bool) : M → Bool
  | .lst _ => true | .comp _ _ _ _ _ => true
  | .bi .list _ => true | .bi .sorted _ => true
  | .call f _ => own f | .callk f _ _ => own f
  | .px o _ => pxFr o | .dcomp _ _ _ _ _ _ => true | .comp2 _ _ _ _ _ _ _ _ _ => true
  | .bool _ es => match es with
    | .cons _ a r => match r with | .cons _ b t => (match t with | .nil => M.fresh1 own a && M.fresh1 own b | _ => false) | _ => false
    | _ => false
  | _ => false

/-! ### environments -/
noncomputable def gt (e : En) : Nat → P :=
  List.rec (motive := fun _ => Nat → P) (fun _ => .un) (fun x _ ih i => Nat.rec (motive := fun _ => P) x (fun i _ => ih i) i) e
/-- the slot i becomes p; the list is written out, then k goes on -/
noncomputable def st {β : Type} (e : En) : Nat → P → (En → β) → β :=
  List.rec (motive := fun _ => Nat → P → (En → β) → β) (fun _ _ k => k []) (fun x t ih i v k => Nat.rec (motive := fun _ => β) (k (v :: t)) (fun i _ => ih i v (fun t => k (x :: t))) i) e
noncomputable def wipeE {β : Type} (vs : List Nat) : En → (En → β) → β :=
  List.rec (motive := fun _ => En → (En → β) → β) (fun e k => k e) (fun v _ ih e k => ih e fun e => st e v .un k) vs
/-- the slots vs as they are in e₀ -/
noncomputable def backE {β : Type} (e₀ : En) (vs : List Nat) : En → (En → β) → β :=
  List.rec (motive := fun _ => En → (En → β) → β) (fun e k => k e) (fun v _ ih e k => ih e fun e => st e v (gt e₀ v) k) vs
def plainP : P → Bool | .un => true | .val _ => true | _ => false
noncomputable def bindIs {β : Type} (is : List Nat) : List D → En → (En → β) → β → β :=
  List.rec (motive := fun _ => List D → En → (En → β) → β → β)
    (fun ds e k no => match ds with | [] => k e | _ => no)
    (fun i _ ih ds e k no => match ds with | d :: ds => st e i (.val d) fun e => ih ds e k no | [] => no) is
noncomputable def bindTg {β : Type} (e : En) (tg : Tg) (d : D) (k : En → β) (no : β) : β := match tg with
  | .n i => st e i (.val d) k
  | .t is => match d with | .tup ds => bindIs is ds e k no | .lst ds => bindIs is ds e k no | _ => no
/-- the targets may be stored -/
def okTg (c : Cfg) (e : En) : Tg → Bool
  | .n i => !c.lent i && decide (i < e.length)
  | .t is => is.all fun i => !c.lent i && decide (i < e.length)
def pickK (ds : List P) : List Nat → Option (List P)
  | [] => some []
  | k :: ks => match ds[k]? with | some d => (pickK ds ks).map (d :: ·) | none => none
def argI : List D → Option (Option Int)
  | [] => some none
  | [.int i] => some (some i)
  | _ => none
def big : Int := 4611686018427387904
def rngD : List D → Option (List D)
  | [.int j] => if -big ≤ j ∧ j < big then some ((List.range j.toNat).map fun i => .int (i : Nat)) else none
  | [.int i, .int j] => if -big ≤ i ∧ i < big ∧ -big ≤ j ∧ j < big then some ((List.range (j - i).toNat).map fun k => .int (i + (k : Nat))) else none
  | _ => none
def enumD (n : Nat) : List D → List D | [] => [] | x :: xs => .tup [.int n, x] :: enumD (n + 1) xs
def zipD : List D → List D → List D | x :: xs, y :: ys => .tup [x, y] :: zipD xs ys | _, _ => []
def zipD3 : List D → List D → List D → List D | x :: xs, y :: ys, z :: zs => .tup [x, y, z] :: zipD3 xs ys zs | _, _, _ => []
def zipA : List D → Option (List D)
  | [x, y] => match x.items with | some xs => (match y.items with | some ys => some (zipD xs ys) | none => none) | none => none
  | [x, y, z] => match x.items with | some xs => (match y.items with | some ys => (match z.items with | some zs => some (zipD3 xs ys zs) | none => none) | none => none) | none => none
  | _ => none

/-- a call; the list of slot i may have been lent to it as its first parameter -/
noncomputable def backS {β : Type} (ls : Option Nat) (ps : List P) (e : En) (k : En → β) (no : β) : β := match ls with | none => k e | some i => match gt ps 0 with | .ml xs => st e i (.ml xs) k | _ => no
noncomputable def doCall (c : Cfg) (f : Nat) (ps : List P) (ls : Option Nat) (e : En) : R D := match c.cf f ps with
  | .ok d ps' => backS ls ps' e (fun e => .ok d e) .no
  | .ex x ps' => backS ls ps' e (fun e => .ex x e) .no
  | .no => .no

/-- the turns of a comprehension -/
noncomputable def loopC (tg : Tg) (tt : En → R Bool) (el : En → R D) (own : List Nat) (xs : List D) : List D → En → R (List D) :=
  List.rec (motive := fun _ => List D → En → R (List D)) (fun acc e => .ok acc.reverse e)
    (fun x _ ih acc e => wipeE own e fun e => bindTg e tg x
      (fun e => (tt e).bind fun b e => if b then (el e).bind fun d e => ih (d :: acc) e else ih acc e) .no) xs
/-- a turn of a comprehension of two clauses makes several items -/
noncomputable def loopG {α : Type} (tg : Tg) (bd : α → En → R α) (own : List Nat) (xs : List D) : α → En → R α :=
  List.rec (motive := fun _ => α → En → R α) (fun acc e => .ok acc e)
    (fun x _ ih acc e => wipeE own e fun e => bindTg e tg x (fun e => (bd acc e).bind fun acc e => ih acc e) .no) xs
/-- the list that is walked is locked, and freed behind -/
noncomputable def lockE {β : Type} (it : It) (e : En) (k : En → β) : β := match it with | .b i => (match gt e i with | .ml xs => st e i (.lk xs) k | _ => k e) | _ => k e
noncomputable def freeE {β : Type} (it : It) (e₁ e₂ : En) (k : En → β) (no : β) : β := match it with
  | .b i => (match gt e₁ i with | .ml _ => (match gt e₂ i with | .lk xs => st e₂ i (.ml xs) k | _ => no) | _ => k e₂)
  | _ => k e₂

abbrev CE := En → R D
/-- a list of expressions, compiled: starred, the text, its value -/
abbrev CL := List (Bool × M × CE)
abbrev CI := En → R (List D)
noncomputable def esC (l : CL) : En → R (List D) :=
  List.rec (motive := fun _ => En → R (List D)) (fun e => .ok [] e)
    (fun x _ ih e => (x.2.2 e).bind fun d e => if x.1 then
      match seqD d with
      | some xs => (ih e).bind fun ds e => .ok (xs ++ ds) e
      | none => .no
    else (ih e).bind fun ds e => .ok (d :: ds) e) l
/-- tests, all of them -/
noncomputable def tsC (l : CL) : En → R Bool :=
  List.rec (motive := fun _ => En → R Bool) (fun e => .ok true e)
    (fun x _ ih e => (x.2.2 e).bind fun d e => (lift (tru d) e).bind fun b e => if b then ih e else .ok false e) l
/-- the slot that the first argument lends -/
noncomputable def lends (c : Cfg) (f : Nat) (a : M) (e : En) : Option Nat :=
  if c.io f then (match a with | .v i => (match gt e i with | .ml _ => some i | _ => none) | _ => none) else none
def handP (c : Cfg) (f : Nat) (a : M) (d : D) : P := if c.io f && a.fresh c.own then (match d with | .lst xs => P.ml xs | .dct _ => .un | d => .val d) else .val d
noncomputable def vals (ds : List D) : List P := List.rec (motive := fun _ => List P) [] (fun d _ ih => .val d :: ih) ds

section
variable (c : Cfg)
noncomputable def xV (i : Nat) : CE := fun e => match gt e i with
  | .val d => .ok d e
  | .ml xs => if c.lent i then .no else st e i (.val (.lst xs)) fun e => .ok (.lst xs) e
  | .md kvs => if c.lent i then .no else st e i (.val (.dct kvs)) fun e => .ok (.dct kvs) e
  | _ => .no
def xG (x : Nat) : CE := fun e => lift (c.gl x) e
def xNeg (a : CE) : CE := fun e => (a e).bind fun d e => match d with | .int i => .ok (.int (-i)) e | _ => .no
def xNot (a : CE) : CE := fun e => (a e).bind fun d e => lift ((tru d).map fun b => .bl (!b)) e
def xBop (o : Operator) (a b : CE) : CE := fun e => (a e).bind fun x e => (b e).bind fun y e => lift (bopD o x y) e
/-- and, or: by truth, the last one as it is -/
noncomputable def xBool (and : Bool) (l : CL) : CE :=
  List.rec (motive := fun _ => CE) (fun _ => .no)
    (fun x r ih e => match r with
      | [] => x.2.2 e
      | _ :: _ => (x.2.2 e).bind fun d e => (lift (tru d) e).bind fun t e => if t = and then ih e else .ok d e) l
def xCmp (o : CmpOp) (a b : CE) : CE := fun e => (a e).bind fun x e => (b e).bind fun y e => lift ((cmpD o x y).map .bl) e
def xCmp2 (o p : CmpOp) (a b z : CE) : CE := fun e => (a e).bind fun x e => (b e).bind fun y e => (lift (cmpD o x y) e).bind fun t e =>
      if t then (z e).bind fun w e => lift ((cmpD p y w).map .bl) e else .ok (.bl false) e
def xIte (t a b : CE) : CE := fun e => (t e).bind fun x e => (lift (tru x) e).bind fun t e => if t then a e else b e
noncomputable def xTup (l : CL) : CE := fun e => (esC l e).bind fun ds e => if ds.length ≤ sizeLine then .ok (.tup ds) e else .no
noncomputable def xLst (l : CL) : CE := fun e => (esC l e).bind fun ds e => if ds.length ≤ sizeLine then .ok (.lst ds) e else .no
noncomputable def xComp (own : List Nat) (tg : Tg) (it : It) (elt : CE) (i : CI) (ifs : CL) : CE := fun e => (i e).bind fun xs e₁ =>
      if own.all (fun i => plainP (gt e₁ i) && !c.lent i) && decide (xs.length ≤ sizeLine) then
        lockE it e₁ fun e₁' => wipeE own e₁' fun e₁'' =>
        match loopC tg (tsC ifs) elt own xs [] e₁'' with
        | .ok ds e₂ => backE e₁ own e₂ fun e₂ => freeE it e₁ e₂ (fun e₃ => .ok (.lst ds) e₃) .no
        | _ => .no
      else .no
noncomputable def xCall (f : Nat) (l : CL) : CE := fun e => match l with
  | [] => doCall c f [] none e
  | x :: r => if x.1 then .no else match lends c f x.2.1 e with
    | some i => (esC r e).bind fun ds e => (match gt e i with
      | .ml xs => doCall c f (.ml xs :: vals ds) (some i) e
      | _ => .no)
    | none => (x.2.2 e).bind fun d e => (esC r e).bind fun ds e => doCall c f (handP c f x.2.1 d :: vals ds) none e
noncomputable def xCallk (f : Nat) (ks : List Nat) (l : CL) : CE := fun e => (esC l e).bind fun ds e => match pickK (vals ds) ks with | some ps => doCall c f ps none e | none => .no
noncomputable def xBi (b : Bi) (l : CL) : CE := fun e => (esC l e).bind fun ds e => lift (biD b ds) e
/-- the receiver is of the method's type -/
def mtOk : Mt → D → Bool | .join, .str _ => true | .split, .str _ => true | .index, .lst _ => true | _, _ => false
noncomputable def xMt (m : Mt) (o : CE) (l : CL) : CE := fun e => (o e).bind fun x e => if mtOk m x then (esC l e).bind fun ds e => lift (mtD m x ds) e else .no
def xSub (o i : CE) : CE := fun e => (o e).bind fun x e => (i e).bind fun y e => lift (subD x y) e
noncomputable def partsE (l : CL) : En → R (Option Int) := fun e => (esC l e).bind fun ds e => lift (argI ds) e
noncomputable def xSl (o : CE) (lo hi : CL) : CE := fun e => (o e).bind fun x e => (partsE lo e).bind fun l e => (partsE hi e).bind fun h e => lift (slD x l h) e
def xIsi (ts : List Ty) (o : CE) : CE := fun e => (o e).bind fun x e => lift (isiD x ts) e
/-- a slot's list, read where it stands -/
def shown : P → Option D | .ml xs => some (.lst xs) | .lk xs => some (.lst xs) | .md kvs => some (.dct kvs) | .val d => some d | .un => none | .ob _ _ => none
noncomputable def xBsub (i : Nat) (a : CE) : CE := fun e => match shown (gt e i) with
    | some _ => (a e).bind fun y e => match shown (gt e i) with | some x => lift (subD x y) e | none => .no
    | none => .no
noncomputable def xBlen (i : Nat) : CE := fun e => match shown (gt e i) with | some x => lift (biD .len [x]) e | none => .no
noncomputable def xBin (n : Bool) (i : Nat) (a : CE) : CE := fun e => (a e).bind fun y e => match shown (gt e i) with
    | some x => lift ((inD y x).map fun b => .bl (b != n)) e
    | none => .no
noncomputable def xBcmp (o : CmpOp) (i : Nat) (a : CE) : CE := fun e => match shown (gt e i) with
    | some _ => (a e).bind fun y e => match shown (gt e i) with | some x => lift ((cmpD o x y).map .bl) e | none => .no
    | none => .no
noncomputable def xPop (i : Nat) (l : CL) : CE := fun e => match gt e i with
    | .ml _ => (esC l e).bind fun ds e => match gt e i with
      | .ml xs => (match ds with
        | [] => match xs[xs.length - 1]? with | some d => st e i (.ml xs.dropLast) fun e => .ok d e | none => .no
        | [.int k] => if -big ≤ k ∧ k < big then
          match ixN xs.length k with
          | some j => match xs[j]? with | some d => st e i (.ml (xs.eraseIdx j)) fun e => .ok d e | none => .no
          | none => .no
          else .no
        | _ => .no)
      | _ => .no
    | _ => .no
noncomputable def xPx (o : Px) (l : CL) : CE := fun e => (esC l e).bind fun ds e => lift (pxD o ds) e
noncomputable def xAttr (x : Nat) (o : CE) : CE := fun e => (o e).bind fun d e => match d with
  | .obj j fs => (match c.at_ j x with
    | some (.fld k) => lift fs[k]? e
    | some (.prop i) => if c.own i then .no else (doCall c i [.val d] none e).calm
    | _ => .no)
  | _ => .no
noncomputable def xMeth (x : Nat) (o : CE) (l : CL) : CE := fun e => (o e).bind fun d e => match d with
  | .obj j _ => (match c.at_ j x with
    | some (.meth i) => if c.own i then .no else (esC l e).bind fun ds e => doCall c i (.val d :: vals ds) none e
    | _ => .no)
  | _ => .no
/-- len, of an object by its own def (the name 0) -/
noncomputable def xOlen (o : CE) : CE := fun e => (o e).bind fun d e => match d with
  | .obj j _ => (match c.at_ j 0 with
    | some (.meth i) => (doCall c i [.val d] none e).calm.bind fun r e => (match r with | .int n => if 0 ≤ n ∧ n < big then .ok (.int n) e else .no | _ => .no)
    | _ => .no)
  | d => lift (biD .len [d]) e
/-- in, of an object by its own def (the name 1) -/
noncomputable def xOin (n : Bool) (a o : CE) : CE := fun e => (a e).bind fun y e => (o e).bind fun d e => match d with
  | .obj j _ => (match c.at_ j 1 with
    | some (.meth i) => (doCall c i [.val d, .val y] none e).calm.bind fun r e => (match r with | .bl b => .ok (.bl (b != n)) e | _ => .no)
    | _ => .no)
  | d => lift ((inD y d).map fun b => .bl (b != n)) e
noncomputable def xDcomp (own : List Nat) (tg : Tg) (it : It) (k v : CE) (i : CI) (ifs : CL) : CE := fun e => (i e).bind fun xs e₁ =>
      if own.all (fun i => plainP (gt e₁ i) && !c.lent i) && decide (xs.length < sizeLine) then
        wipeE own e₁ fun e₁'' =>
        match loopG (α := List (Key × D)) tg (fun acc e => (tsC ifs e).bind fun b e => if b then (k e).bind fun y e => (v e).bind fun z e => lift ((keyD y).map fun y => putD acc y z) e else .ok acc e) own xs [] e₁'' with
        | .ok ds e₂ => backE e₁ own e₂ fun e₂ => .ok (.dct ds) e₂
        | _ => .no
      else .no
noncomputable def xComp2 (own own2 : List Nat) (tg tg2 : Tg) (elt : CE) (i i2 : CI) (ifs ifs2 : CL) : CE := fun e => (i e).bind fun xs e₁ =>
      if own.all (fun i => plainP (gt e₁ i) && !c.lent i) then
        wipeE own e₁ fun e₁'' =>
        match loopG (α := List D) tg (fun acc e => (tsC ifs e).bind fun b e => if b then (i2 e).bind fun ys e =>
            loopG (α := List D) tg2 (fun acc e => (tsC ifs2 e).bind fun b e => if b then (elt e).bind fun d e => if acc.length < sizeLine then .ok (d :: acc) e else .no else .ok acc e) own2 ys acc e
          else .ok acc e) own xs [] e₁'' with
        | .ok ds e₂ => backE e₁ own e₂ fun e₂ => .ok (.lst ds.reverse) e₂
        | _ => .no
      else .no
def iE (a : CE) : CI := fun e => (a e).bind fun d e => lift d.items e
noncomputable def iB (i : Nat) : CI := fun e => match shown (gt e i) with | some d => lift d.items e | none => .no
noncomputable def iRng (l : CL) : CI := fun e => (esC l e).bind fun ds e => lift (rngD ds) e
def iEnum (a : CE) : CI := fun e => (a e).bind fun d e => lift (d.items.map (enumD 0)) e
noncomputable def iZip (l : CL) : CI := fun e => (esC l e).bind fun ds e => lift (zipA ds) e
noncomputable def evE (m : M) : CE :=
  M.rec (motive_1 := fun _ => CE) (motive_2 := fun _ => CL) (motive_3 := fun _ => CI)
    (fun d e => .ok d e) (xV c) (xG c) (fun _ a => xNeg a) (fun _ a => xNot a) (fun o _ _ a b => xBop o a b) (fun a _ l => xBool a l)
    (fun _ o _ a b => xCmp o a b) (fun _ o _ p _ a b z => xCmp2 o p a b z) (fun _ _ _ t a b => xIte t a b)
    (fun _ l => xTup l) (fun _ l => xLst l) (fun own _ tg it _ elt i l => xComp c own tg it elt i l)
    (fun f _ l => xCall c f l) (fun f _ ks l => xCallk c f ks l) (fun b _ l => xBi b l) (fun m _ _ o l => xMt m o l)
    (fun _ _ o i => xSub o i) (fun _ _ _ o lo hi => xSl o lo hi) (fun _ ts o => xIsi ts o)
    (fun i _ a => xBsub i a) (fun i => xBlen i) (fun n _ i a => xBin n i a) (fun i o _ a => xBcmp o i a) (fun i _ l => xPop i l)
    (fun o _ l => xPx o l) (fun _ x o => xAttr c x o) (fun _ x _ o l => xMeth c x o l) (fun _ o => xOlen c o) (fun n _ _ a o => xOin c n a o)
    (fun own _ _ tg it _ k v i l => xDcomp c own tg it k v i l) (fun own own2 _ tg it _ tg2 it2 _ elt i l i2 l2 => xComp2 c own own2 tg tg2 elt i i2 l l2)
    [] (fun s m _ a l => (s, m, a) :: l)
    (fun _ a => iE a) (fun i => iB i) (fun _ l => iRng l) (fun _ a => iEnum a) (fun _ l => iZip l) m
noncomputable def evEs (l : Ms) : CL :=
  Ms.rec (motive_1 := fun _ => CE) (motive_2 := fun _ => CL) (motive_3 := fun _ => CI)
    (fun d e => .ok d e) (xV c) (xG c) (fun _ a => xNeg a) (fun _ a => xNot a) (fun o _ _ a b => xBop o a b) (fun a _ l => xBool a l)
    (fun _ o _ a b => xCmp o a b) (fun _ o _ p _ a b z => xCmp2 o p a b z) (fun _ _ _ t a b => xIte t a b)
    (fun _ l => xTup l) (fun _ l => xLst l) (fun own _ tg it _ elt i l => xComp c own tg it elt i l)
    (fun f _ l => xCall c f l) (fun f _ ks l => xCallk c f ks l) (fun b _ l => xBi b l) (fun m _ _ o l => xMt m o l)
    (fun _ _ o i => xSub o i) (fun _ _ _ o lo hi => xSl o lo hi) (fun _ ts o => xIsi ts o)
    (fun i _ a => xBsub i a) (fun i => xBlen i) (fun n _ i a => xBin n i a) (fun i o _ a => xBcmp o i a) (fun i _ l => xPop i l)
    (fun o _ l => xPx o l) (fun _ x o => xAttr c x o) (fun _ x _ o l => xMeth c x o l) (fun _ o => xOlen c o) (fun n _ _ a o => xOin c n a o)
    (fun own _ _ tg it _ k v i l => xDcomp c own tg it k v i l) (fun own own2 _ tg it _ tg2 it2 _ elt i l i2 l2 => xComp2 c own own2 tg tg2 elt i i2 l l2)
    [] (fun s m _ a l => (s, m, a) :: l)
    (fun _ a => iE a) (fun i => iB i) (fun _ l => iRng l) (fun _ a => iEnum a) (fun _ l => iZip l) l
noncomputable def evI (i : It) : CI :=
  It.rec (motive_1 := fun _ => CE) (motive_2 := fun _ => CL) (motive_3 := fun _ => CI)
    (fun d e => .ok d e) (xV c) (xG c) (fun _ a => xNeg a) (fun _ a => xNot a) (fun o _ _ a b => xBop o a b) (fun a _ l => xBool a l)
    (fun _ o _ a b => xCmp o a b) (fun _ o _ p _ a b z => xCmp2 o p a b z) (fun _ _ _ t a b => xIte t a b)
    (fun _ l => xTup l) (fun _ l => xLst l) (fun own _ tg it _ elt i l => xComp c own tg it elt i l)
    (fun f _ l => xCall c f l) (fun f _ ks l => xCallk c f ks l) (fun b _ l => xBi b l) (fun m _ _ o l => xMt m o l)
    (fun _ _ o i => xSub o i) (fun _ _ _ o lo hi => xSl o lo hi) (fun _ ts o => xIsi ts o)
    (fun i _ a => xBsub i a) (fun i => xBlen i) (fun n _ i a => xBin n i a) (fun i o _ a => xBcmp o i a) (fun i _ l => xPop i l)
    (fun o _ l => xPx o l) (fun _ x o => xAttr c x o) (fun _ x _ o l => xMeth c x o l) (fun _ o => xOlen c o) (fun n _ _ a o => xOin c n a o)
    (fun own _ _ tg it _ k v i l => xDcomp c own tg it k v i l) (fun own own2 _ tg it _ tg2 it2 _ elt i l i2 l2 => xComp2 c own own2 tg tg2 elt i i2 l l2)
    [] (fun s m _ a l => (s, m, a) :: l)
    (fun _ a => iE a) (fun i => iB i) (fun _ l => iRng l) (fun _ a => iEnum a) (fun _ l => iZip l) i
end
end Mi
end
section
namespace Mi
open PySem L2
inductive Fl where
  | nx (e : En) | rt (d : D) (e : En) | bk (e : En) | ct (e : En) | ex (x : D) (e : En) | no
deriving Inhabited
def R.fl {α : Type} (r : R α) (f : α → En → Fl) : Fl := match r with | .ok a e => f a e | .ex x e => .ex x e | .no => .no
/-- what an assignment to slot i keeps of a value -/
def keepP (c : Cfg) (i : Nat) (a : M) (d : D) : P :=
  if c.mu i && a.fresh c.own then (match d with | .lst xs => .ml xs | .dct kvs => .md kvs | d => .val d) else .val d
def okS (c : Cfg) (e : En) (i : Nat) : Bool := !c.lent i && decide (i < e.length)
noncomputable def asgAll {β : Type} (c : Cfg) (is : List Nat) : CL → List D → En → (En → β) → β → β :=
  List.rec (motive := fun _ => CL → List D → En → (En → β) → β → β)
    (fun l ds e k no => match l, ds with | [], [] => k e | _, _ => no)
    (fun i _ ih l ds e k no => match l with
      | x :: l => (match ds with | d :: ds => if okS c e i then st e i (keepP c i x.2.1 d) fun e => ih l ds e k no else no | [] => no)
      | [] => no) is
noncomputable def forL (tg : Tg) (c : Cfg) (body : En → Fl) (xs : List D) : En → Fl :=
  List.rec (motive := fun _ => En → Fl) (fun e => .nx e)
    (fun x _ ih e => if okTg c e tg then
      bindTg e tg x (fun e => match body e with
        | .nx e => ih e
        | .ct e => ih e
        | .bk e => .nx e
        | r => r) .no
    else .no) xs
noncomputable def whlL (t : En → R D) (body : En → Fl) (n : Nat) : En → Fl :=
  Nat.rec (motive := fun _ => En → Fl) (fun _ => .no)
    (fun _ ih e => (t e).fl fun d e => match tru d with
    | some true => (match body e with
      | .nx e => ih e
      | .ct e => ih e
      | .bk e => .nx e
      | r => r)
    | some false => .nx e
    | none => .no) n
section
variable (c : Cfg)
abbrev CS := En → Fl
noncomputable def sE (a : M) : CS := fun e => (evE c a e).fl fun _ e => .nx e
noncomputable def sAsg (i : Nat) (a : M) : CS := fun e => (evE c a e).fl fun d e => if okS c e i then st e i (keepP c i a d) .nx else .no
noncomputable def sAsgT (is : List Nat) (a : M) : CS := fun e => (evE c a e).fl fun d e => if okTg c e (.t is) then bindTg e (.t is) d .nx .no else .no
noncomputable def sAsgP (is : List Nat) (as : Ms) : CS := fun e => (esC (evEs c as) e).fl fun ds e => asgAll c is (evEs c as) ds e .nx .no
noncomputable def sSetI (i : Nat) (ix a : M) : CS := fun e => (evE c a e).fl fun d e => match gt e i with
    | .ml _ => (evE c ix e).fl fun y e => (match gt e i with
      | .ml xs => (match y with
        | .int k => (match ixN xs.length k with | some j => st e i (.ml (xs.set j d)) .nx | none => .no)
        | _ => .no)
      | _ => .no)
    | .md _ => (evE c ix e).fl fun y e => (match gt e i with
      | .md kvs => (match keyD y with
        | some k => if kvs.length < sizeLine then st e i (.md (putD kvs k d)) .nx else .no
        | none => .no)
      | _ => .no)
    | _ => .no
noncomputable def sSetA (i : Nat) (x : Nat) (a : M) : CS := fun e => (evE c a e).fl fun d e => match gt e i with
    | .ob j fs => (match c.at_ j x with
      | some (.fld k) => st e i (.ob j ((fs ++ List.replicate (k + 1 - fs.length) none).set k (some d))) .nx
      | _ => .no)
    | _ => .no
noncomputable def sApp (i : Nat) (a : M) : CS := fun e => match gt e i with
    | .ml _ => (evE c a e).fl fun d e => (match gt e i with
      | .ml xs => if xs.length < sizeLine then st e i (.ml (xs ++ [d])) .nx else .no
      | _ => .no)
    | _ => .no
noncomputable def sExt (i : Nat) (a : M) : CS := fun e => match gt e i with
    | .ml _ => (evE c a e).fl fun d e => (match gt e i with
      | .ml xs => (match d with | .lst ys => if xs.length + ys.length ≤ sizeLine then st e i (.ml (xs ++ ys)) .nx else .no | _ => .no)
      | _ => .no)
    | _ => .no
noncomputable def sRet (a : M) : CS := fun e => (evE c a e).fl fun d e => if c.mine && !a.fresh c.own then .no else .rt d e
noncomputable def sIfe (t : M) (a b : CS) : CS := fun e => (evE c t e).fl fun d e => match tru d with | some true => a e | some false => b e | none => .no
noncomputable def sFor (tg : Tg) (it : It) (b : CS) : CS := fun e => (evI c it e).fl fun xs e => forL tg c b xs e
noncomputable def sWhl (t : M) (b : CS) : CS := fun e => whlL (evE c t) b c.turns e
noncomputable def sRaise (k : Nat) (as : Ms) : CS := fun e => (esC (evEs c as) e).fl fun ds e => .ex (.exn k ds) e
def sSeq (a r : CS) : CS := fun e => match a e with | .nx e => r e | f => f
noncomputable def evS (m : S) : CS :=
  S.rec (motive_1 := fun _ => CS) (motive_2 := fun _ => CS)
    (fun a => sE c a) (fun i a => sAsg c i a) (fun is a => sAsgT c is a) (fun is as => sAsgP c is as)
    (fun i ix a => sSetI c i ix a) (fun i x a => sSetA c i x a) (fun i a => sApp c i a) (fun i a => sExt c i a)
    (fun a => sRet c a) (fun e => if c.mine then .no else .rt .non e) (fun e => .nx e) (fun e => .bk e) (fun e => .ct e)
    (fun t _ _ a b => sIfe c t a b) (fun tg it _ b => sFor c tg it b) (fun t _ b => sWhl c t b)
    (fun k as => sRaise c k as) (fun e => .nx e)
    (fun e => .nx e) (fun _ _ a r => sSeq a r) m
noncomputable def evSs (l : Ss) : CS :=
  Ss.rec (motive_1 := fun _ => CS) (motive_2 := fun _ => CS)
    (fun a => sE c a) (fun i a => sAsg c i a) (fun is a => sAsgT c is a) (fun is as => sAsgP c is as)
    (fun i ix a => sSetI c i ix a) (fun i x a => sSetA c i x a) (fun i a => sApp c i a) (fun i a => sExt c i a)
    (fun a => sRet c a) (fun e => if c.mine then .no else .rt .non e) (fun e => .nx e) (fun e => .bk e) (fun e => .ct e)
    (fun t _ _ a b => sIfe c t a b) (fun tg it _ b => sFor c tg it b) (fun t _ b => sWhl c t b)
    (fun k as => sRaise c k as) (fun e => .nx e)
    (fun e => .nx e) (fun _ _ a r => sSeq a r) l
end
/-- a def: how many slots, how many parameters, slots that keep lists, whether its first parameter may be changed, whether its list is its caller's, its block -/
structure Fn where
  n : Nat
  np : Nat
  mu : List Nat
  io : Bool
  mine : Bool
  body : Ss
structure Pg where
  fn : Nat → Option Fn
  gl : Nat → Option D
  turns : Nat
  /-- what the class j has under the name x -/
  at_ : Nat → Nat → Option At
  /-- f makes an object of the class .1 by the def .2.1, which takes the object ahead of the rest; .2.2: what it is given besides -/
  ct : Nat → Option (Nat × Nat × List D)
def Pg.io (p : Pg) (f : Nat) : Bool := match p.fn f with | some fn => fn.io | none => false
def Pg.own (p : Pg) (f : Nat) : Bool := match p.fn f with | some fn => fn.mine | none => false
def isMl : P → Bool | .ml _ => true | .md _ => true | .ob _ _ => true | _ => false
noncomputable def Pg.cfg (p : Pg) (cf : Nat → List P → R D) (fn : Fn) (ps : List P) : Cfg :=
  { cf := cf, io := p.io, own := p.own, gl := p.gl, mu := fun i => fn.mu.contains i, lent := fun i => isMl (gt ps i) && decide (i < fn.np), mine := fn.mine, turns := p.turns, at_ := p.at_ }
/-- all fields are set -/
def allSet : List (Option D) → Option (List D)
  | [] => some []
  | some d :: r => (allSet r).map (d :: ·)
  | none :: _ => none
def madeOf (c : Nat) : P → Option D
  | .ob j (f :: fs) => if j = c then (allSet (f :: fs)).map (.obj j) else none
  | _ => none
def isVal : P → Bool | .val _ => true | _ => false
noncomputable def runC (cf : Nat → List P → R D) (t : Nat × Nat × List D) (ps : List P) : R D := if ps.all isVal then match cf t.2.1 (.ob t.1 [] :: (ps ++ vals t.2.2)) with
  | .ok d ps' => (match d, madeOf t.1 (gt ps' 0) with | .non, some o => .ok o ps | _, _ => .no)
  | .ex x _ => .ex x ps
  | .no => .no
  else .no
noncomputable def runF (p : Pg) (cf : Nat → List P → R D) (f : Nat) (ps : List P) : R D := match p.ct f with
    | some t => runC cf t ps
    | none => match p.fn f with
    | none => .no
    | some fn => if ps.length = fn.np then
        match evSs (p.cfg cf fn ps) fn.body (ps ++ List.replicate (fn.n - fn.np) .un) with
        | .rt d e => .ok d (e.take fn.np)
        | .nx e => if fn.mine then .no else .ok .non (e.take fn.np)
        | .ex x e => .ex x (e.take fn.np)
        | _ => .no
      else .no
noncomputable def Pg.run (p : Pg) (n : Nat) : Nat → List P → R D :=
  Nat.rec (motive := fun _ => Nat → List P → R D) (fun _ _ => .no) (fun _ ih f ps => runF p ih f ps) n
end Mi
end
section
/-! what the data stand for in the heap -/
namespace Mi
open PySem L2

abbrev Sub (F H : Hp) : Prop := ∀ a o, F a = some o → H a = some o
theorem Sub.refl {F : Hp} : Sub F F := fun _ _ h => h
theorem Sub.trans {F G H : Hp} (a : Sub F G) (b : Sub G H) : Sub F H := fun x o h => b x o (a x o h)
theorem Sub.new {F H : Hp} {p : Addr} {o : HO} (h : Sub F H) (hp : H p = none) : Sub F (upd H p o) := fun x u e => by
  rw [upd_ne (fun z => by subst z; have := h _ _ e; rw [hp] at this; cases this)]; exact h x u e
theorem Sub.both {F H : Hp} {p : Addr} {o : HO} (h : Sub F H) : Sub (upd F p o) (upd H p o) := fun x u e => by
  by_cases hx : x = p
  · subst hx; rw [upd_same] at e ⊢; exact e
  · rw [upd_ne hx] at e ⊢; exact h x u e
theorem Rd.sub {F H : Hp} {a : Addr} {u : HO} (h : Sub F H) (r : Rd F a u) : Rd H a u := by
  rcases r with r | ⟨o, r⟩
  · exact .inl (h _ _ r)
  · exact .inr ⟨o, h _ _ r⟩
theorem SqL.sub {K : PySem.W.Frag} {F H : Hp} {a : Addr} {xs : List V} (h : Sub F H) (r : SqL K F a xs) : SqL K H a xs := r.imp (Rd.sub h) id
theorem SqT.sub {K : PySem.W.Frag} {F H : Hp} {a : Addr} {xs : List V} (h : Sub F H) (r : SqT K F a xs) : SqT K H a xs := r.imp (Rd.sub h) id

def kOk : Key → Bool | .inl _ => true | .inr s => PyData.strOk s
section
variable (fa : Nat → Option Addr) (K : PySem.W.Frag)
mutual
inductive Rep (F : Hp) : D → V → Prop
  | non : Rep F .non .non
  | bl (b : Bool) : Rep F (.bl b) (.bl b)
  | int (i : Int) : Rep F (.int i) (.int i)
  | str {x : Str} : PyData.strOk x = true → Rep F (.str x) (.str x)
  | tup {a : Addr} {vs : List V} {ds : List D} : SqT K F a vs → RepL F ds vs → Rep F (.tup ds) (.ref a)
  | lst {a : Addr} {vs : List V} {ds : List D} : Rd F a (.lst vs) → RepL F ds vs → Rep F (.lst ds) (.ref a)
  | scr {a : Addr} {vs : List V} {ds : List D} : SqL K F a vs → RepL F ds vs → Rep F (.scr ds) (.ref a)
  | dct {a : Addr} {kvs : List (Key × V)} {kds : List (Key × D)} : F a = some (.dK kvs) → RepK F kds kvs → Rep F (.dct kds) (.ref a)
  | fn {i : Nat} {a : Addr} : fa i = some a → Rep F (.fn i) (.ref a)
  | obj {j : Nat} {a C dx : Addr} {vs : List V} {ds : List D} : fa j = some C → F a = some (SlX.SlO a C dx (vs.map some)) → F dx = some (.xd []) → RepL F ds vs → Rep F (.obj j ds) (.ref a)
inductive RepL (F : Hp) : List D → List V → Prop
  | nil : RepL F [] []
  | cons {d : D} {v : V} {ds : List D} {vs : List V} : Rep F d v → RepL F ds vs → RepL F (d :: ds) (v :: vs)
inductive RepK (F : Hp) : List (Key × D) → List (Key × V) → Prop
  | nil : RepK F [] []
  | cons {k : Key} {d : D} {v : V} {ds : List (Key × D)} {vs : List (Key × V)} : kOk k = true → Rep F d v → RepK F ds vs → RepK F ((k, d) :: ds) ((k, v) :: vs)
end
end

section
variable {fa : Nat → Option Addr} {K : PySem.W.Frag} {F G H : Hp}
mutual
theorem Rep.mono (h : Sub F G) : ∀ {d : D} {v : V}, Rep fa K F d v → Rep fa K G d v
  | _, _, .non => .non
  | _, _, .bl b => .bl b
  | _, _, .int i => .int i
  | _, _, .str h => .str h
  | _, _, .tup a b => .tup (SqT.sub h a) (RepL.mono h b)
  | _, _, .lst a b => .lst (Rd.sub h a) (RepL.mono h b)
  | _, _, .dct a b => .dct (h _ _ a) (RepK.mono h b)
  | _, _, .scr a b => .scr (SqL.sub h a) (RepL.mono h b)
  | _, _, .fn a => .fn a
  | _, _, .obj a b c d => .obj a (h _ _ b) (h _ _ c) (RepL.mono h d)
theorem RepL.mono (h : Sub F G) : ∀ {d : List D} {v : List V}, RepL fa K F d v → RepL fa K G d v
  | _, _, .nil => .nil
  | _, _, .cons a b => .cons (Rep.mono h a) (RepL.mono h b)
theorem RepK.mono (h : Sub F G) : ∀ {d : List (Key × D)} {v : List (Key × V)}, RepK fa K F d v → RepK fa K G d v
  | _, _, .nil => .nil
  | _, _, .cons k a b => .cons k (Rep.mono h a) (RepK.mono h b)
end
theorem RepL.length {ds : List D} {vs : List V} (h : RepL fa K F ds vs) : ds.length = vs.length := by
  induction ds generalizing vs with
  | nil => cases h; rfl
  | cons d ds ih => cases h with | cons a b => simp [ih b]
theorem RepK.length {ds : List (Key × D)} {vs : List (Key × V)} (h : RepK fa K F ds vs) : ds.length = vs.length := by
  induction ds generalizing vs with
  | nil => cases h; rfl
  | cons d ds ih => cases h with | cons k a b => simp [ih b]
theorem RepL.get {ds : List D} {vs : List V} (h : RepL fa K F ds vs) : ∀ {i : Nat} {d : D}, ds[i]? = some d → ∃ v, vs[i]? = some v ∧ Rep fa K F d v := by
  induction ds generalizing vs with
  | nil => intro i d e; simp at e
  | cons x xs ih =>
    intro i d e
    cases h with
    | cons a b =>
      cases i with
      | zero => simp at e; subst e; exact ⟨_, rfl, a⟩
      | succ i => simpa using ih b (by simpa using e)
theorem RepL.append {ds ds' : List D} {vs vs' : List V} (h : RepL fa K F ds vs) (h' : RepL fa K F ds' vs') : RepL fa K F (ds ++ ds') (vs ++ vs') := by
  induction ds generalizing vs with
  | nil => cases h; exact h'
  | cons x xs ih => cases h with | cons a b => exact .cons a (ih b)
theorem RepL.drop {ds : List D} {vs : List V} (h : RepL fa K F ds vs) (n : Nat) : RepL fa K F (ds.drop n) (vs.drop n) := by
  induction n generalizing ds vs with
  | zero => simpa using h
  | succ n ih => cases h with | nil => exact .nil | cons a b => exact ih b
theorem RepL.take {ds : List D} {vs : List V} (h : RepL fa K F ds vs) (n : Nat) : RepL fa K F (ds.take n) (vs.take n) := by
  induction n generalizing ds vs with
  | zero => simp only [List.take_zero]; exact .nil
  | succ n ih => cases h with | nil => exact .nil | cons a b => exact .cons a (ih b)
theorem RepL.eraseIdx {ds : List D} {vs : List V} (h : RepL fa K F ds vs) (n : Nat) : RepL fa K F (ds.eraseIdx n) (vs.eraseIdx n) := by
  induction n generalizing ds vs with
  | zero => cases h with | nil => exact .nil | cons a b => simpa using b
  | succ n ih => cases h with | nil => exact .nil | cons a b => exact .cons a (ih b)
theorem RepL.set {ds : List D} {vs : List V} (h : RepL fa K F ds vs) (n : Nat) {d : D} {v : V} (q : Rep fa K F d v) : RepL fa K F (ds.set n d) (vs.set n v) := by
  induction n generalizing ds vs with
  | zero => cases h with | nil => exact .nil | cons a b => exact .cons q b
  | succ n ih => cases h with | nil => exact .nil | cons a b => exact .cons a (ih b)
theorem RepL.dropLast {ds : List D} {vs : List V} (h : RepL fa K F ds vs) : RepL fa K F ds.dropLast vs.dropLast := by
  rw [List.dropLast_eq_take, List.dropLast_eq_take, h.length]; exact h.take _
theorem RepL.flat {ds : List D} {vs : List V} (h : RepL fa K F ds vs) (n : Nat) : RepL fa K F (List.replicate n ds).flatten (List.replicate n vs).flatten := by
  induction n with
  | zero => exact .nil
  | succ n ih => rw [List.replicate_succ, List.replicate_succ, List.flatten_cons, List.flatten_cons]; exact h.append ih
theorem RepL.reverse {ds : List D} {vs : List V} (h : RepL fa K F ds vs) : RepL fa K F ds.reverse vs.reverse := by
  induction ds generalizing vs with
  | nil => cases h; exact .nil
  | cons x xs ih => cases h with | cons a b => rw [List.reverse_cons, List.reverse_cons]; exact (ih b).append (.cons a .nil)

mutual
theorem Rep.dp {n : Nat} (h : Sub F H) : ∀ {d : D} {v : V}, Rep fa K F d v → d.fit n = true → Dp K H v d.py
  | _, _, .non, _ => .non
  | _, _, .bl b, _ => .bl b
  | _, _, .int i, _ => .int i
  | _, _, .str _, _ => .str _
  | .tup ds, _, .tup a b, f => by
    cases n with
    | zero => simp [D.fit] at f
    | succ n => simp only [D.py]; exact .tup (SqT.sub h a) (RepL.dp (n := n) h b (by simpa [D.fit] using f))
  | .lst ds, _, .lst a b, f => by
    cases n with
    | zero => simp [D.fit] at f
    | succ n => simp only [D.py]; exact .lst (.inl (Rd.sub h a)) (RepL.dp (n := n) h b (by simpa [D.fit] using f))
  | .dct _, _, .dct a b, f => by cases n <;> simp [D.fit] at f
  | .scr _, _, .scr a b, f => by cases n <;> simp [D.fit] at f
  | .fn _, _, .fn a, f => by cases n <;> simp [D.fit] at f
  | .obj _ _, _, .obj _ _ _ _, f => by cases n <;> simp [D.fit] at f
theorem RepL.dp {n : Nat} (h : Sub F H) : ∀ {d : List D} {v : List V}, RepL fa K F d v → (∀ x ∈ d, x.fit n = true) → DpAll K H v (pyL d)
  | _, _, .nil, _ => .nil
  | _, _, .cons a b, f => .cons (Rep.dp (n := n) h a (f _ (by simp))) (RepL.dp (n := n) h b fun x hx => f x (by simp [hx]))
end
end

/-! ### the data's own order and equality -/
section
variable {fa : Nat → Option Addr} {K : PySem.W.Frag} {F : Hp}
mutual
theorem fit_lay : ∀ {n : Nat} {d : D} {v : V}, Rep fa K F d v → d.fit n = true → d.py.canLay0 = true ∧ d.py.depth ≤ n
  | n, _, _, .non, _ => by simp [D.py, PyData.canLay0, PyData.depth]
  | n, _, _, .bl _, _ => by simp [D.py, PyData.canLay0, PyData.depth]
  | n, _, _, .int _, _ => by simp [D.py, PyData.canLay0, PyData.depth]
  | n, _, _, .str h, _ => by simp [D.py, PyData.canLay0, PyData.depth, h]
  | 0, .tup _, _, .tup _ _, f => by simp [D.fit] at f
  | 0, .lst _, _, .lst _ _, f => by simp [D.fit] at f
  | n + 1, .tup xs, _, .tup _ r, f => by
    obtain ⟨a, b⟩ := fit_layL (n := n) r (by simpa [D.fit] using f)
    simp only [D.py, PyData.canLay0, PyData.depth]
    exact ⟨a, by omega⟩
  | n + 1, .lst xs, _, .lst _ r, f => by
    obtain ⟨a, b⟩ := fit_layL (n := n) r (by simpa [D.fit] using f)
    simp only [D.py, PyData.canLay0, PyData.depth]
    exact ⟨a, by omega⟩
  | n, .dct _, _, .dct _ _, f => by cases n <;> simp [D.fit] at f
  | n, .scr _, _, .scr _ _, f => by cases n <;> simp [D.fit] at f
  | n, .fn _, _, .fn _, f => by cases n <;> simp [D.fit] at f
  | n, .obj _ _, _, .obj _ _ _ _, f => by cases n <;> simp [D.fit] at f
theorem fit_layL : ∀ {n : Nat} {ds : List D} {vs : List V}, RepL fa K F ds vs → (∀ x ∈ ds, x.fit n = true) → PyData.canLayAll0 (pyL ds) = true ∧ PyData.depthAll (pyL ds) ≤ n
  | n, _, _, .nil, _ => by simp [pyL, PyData.canLayAll0, PyData.depthAll]
  | n, d :: ds, _, .cons q r, f => by
    obtain ⟨a, b⟩ := fit_lay (n := n) q (f d (by simp))
    obtain ⟨a', b'⟩ := fit_layL (n := n) r fun x hx => f x (by simp [hx])
    simp only [pyL, PyData.canLayAll0, PyData.depthAll]
    exact ⟨by simp [a, a'], by omega⟩
end
theorem fit_shaped {d : D} {v : V} (r : Rep fa K F d v) (h : d.fit deep = true) : SeqAt.shaped d.py = true := by
  obtain ⟨a, b⟩ := fit_lay r h
  show (d.py.canLay0 && decide (d.py.depth ≤ 64)) = true
  rw [a, Bool.true_and]
  exact decide_eq_true (by unfold deep at b; omega)
end
mutual
theorem eqv_py : ∀ {n m : Nat} (a b : D), a.fit n = true → b.fit m = true → PyData.eqv a.py b.py = a.eqb b
  | n, m, .non, b, _, hb => by cases b <;> (cases m <;> simp_all [D.py, D.eqb, PyData.eqv, D.fit])
  | n, m, .bl _, b, _, hb => by cases b <;> (cases m <;> simp_all [D.py, D.eqb, PyData.eqv, D.fit])
  | n, m, .int _, b, _, hb => by cases b <;> (cases m <;> simp_all [D.py, D.eqb, PyData.eqv, D.fit])
  | n, m, .str _, b, _, hb => by cases b <;> (cases m <;> simp_all [D.py, D.eqb, PyData.eqv, D.fit])
  | n, m, .tup xs, b, ha, hb => by
    cases n with
    | zero => simp [D.fit] at ha
    | succ n =>
      cases b with
      | tup ys =>
        cases m with
        | zero => simp [D.fit] at hb
        | succ m => simp only [D.py, D.eqb, PyData.eqv]; exact eqv_pyL (n := n) (m := m) xs ys (by simpa [D.fit] using ha) (by simpa [D.fit] using hb)
      | _ => simp [D.py, D.eqb, PyData.eqv]
  | n, m, .lst xs, b, ha, hb => by
    cases n with
    | zero => simp [D.fit] at ha
    | succ n =>
      cases b with
      | lst ys =>
        cases m with
        | zero => simp [D.fit] at hb
        | succ m => simp only [D.py, D.eqb, PyData.eqv]; exact eqv_pyL (n := n) (m := m) xs ys (by simpa [D.fit] using ha) (by simpa [D.fit] using hb)
      | _ => simp [D.py, D.eqb, PyData.eqv]
  | n, _, .dct _, _, f, _ => by cases n <;> simp [D.fit] at f
  | n, _, .scr _, _, f, _ => by cases n <;> simp [D.fit] at f
  | n, _, .obj _ _, _, f, _ => by cases n <;> simp [D.fit] at f
  | n, _, .fn _, _, f, _ => by cases n <;> simp [D.fit] at f
  | n, _, .exn _ _, _, f, _ => by cases n <;> simp [D.fit] at f
theorem eqv_pyL : ∀ {n m : Nat} (a b : List D), (∀ x ∈ a, x.fit n = true) → (∀ x ∈ b, x.fit m = true) → PyData.eqvAll (pyL a) (pyL b) = eqbL a b
  | _, _, [], [], _, _ => by simp [pyL, eqbL, PyData.eqvAll]
  | _, _, [], _ :: _, _, _ => by simp [pyL, eqbL, PyData.eqvAll]
  | _, _, _ :: _, [], _, _ => by simp [pyL, eqbL, PyData.eqvAll]
  | n, m, x :: xs, y :: ys, ha, hb => by
    simp only [pyL, eqbL, PyData.eqvAll]
    rw [eqv_py (n := n) (m := m) x y (ha x (by simp)) (hb y (by simp)), eqv_pyL (n := n) (m := m) xs ys (fun z hz => ha z (by simp [hz])) (fun z hz => hb z (by simp [hz]))]
end
mutual
theorem alike_py : ∀ (a b : D), a.alk b = true → PySem.W.alike a.py b.py = true
  | .non, b, h => by cases b <;> simp_all [D.alk, D.py, PySem.W.alike]
  | .bl _, b, h => by cases b <;> simp_all [D.alk, D.py, PySem.W.alike]
  | .int _, b, h => by cases b <;> simp_all [D.alk, D.py, PySem.W.alike]
  | .str _, b, h => by cases b <;> simp_all [D.alk, D.py, PySem.W.alike]
  | .tup xs, b, h => by
    cases b with
    | tup ys => simp only [D.py, PySem.W.alike]; exact alike_pyL xs ys (by simpa [D.alk] using h)
    | _ => simp [D.alk] at h
  | .lst xs, b, h => by
    cases b with
    | lst ys => simp only [D.py, PySem.W.alike]; exact alike_pyL xs ys (by simpa [D.alk] using h)
    | _ => simp [D.alk] at h
  | .dct _, _, h => by simp [D.alk] at h
  | .scr _, _, h => by simp [D.alk] at h
  | .obj _ _, _, h => by simp [D.alk] at h
  | .fn _, _, h => by simp [D.alk] at h
  | .exn _ _, _, h => by simp [D.alk] at h
theorem alike_pyL : ∀ (a b : List D), alkL a b = true → PySem.W.alikeAll (pyL a) (pyL b) = true
  | [], b, _ => by cases b <;> simp [pyL, PySem.W.alikeAll]
  | _ :: _, [], _ => by simp [pyL, PySem.W.alikeAll]
  | x :: xs, y :: ys, h => by
    simp only [alkL, Bool.and_eq_true] at h
    simp only [pyL, PySem.W.alikeAll, Bool.and_eq_true]
    exact ⟨alike_py x y h.1, alike_pyL xs ys h.2⟩
end
theorem dataLt_bool' (a b : Bool) : PySem.W.dataLt (.bool a) (.bool b) = (!a && b) := by cases a <;> cases b <;> decide
mutual
theorem lt_py : ∀ {n m : Nat} (a b : D), a.fit n = true → b.fit m = true → a.alk b = true → PySem.W.dataLt a.py b.py = a.ltb b
  | n, m, .non, b, _, _, h => by
    cases b <;> simp_all [D.alk]
    simp only [D.py, D.ltb]
    decide
  | n, m, .bl a, b, _, _, h => by cases b <;> simp_all [D.alk, D.py, D.ltb, dataLt_bool']
  | n, m, .int _, b, _, _, h => by cases b <;> simp_all [D.alk, D.py, D.ltb, PySem.W.dataLt_int]
  | n, m, .str _, b, _, _, h => by cases b <;> simp_all [D.alk, D.py, D.ltb, PySem.W.dataLt_str]
  | n, m, .tup xs, b, ha, hb, h => by
    cases n with
    | zero => simp [D.fit] at ha
    | succ n =>
      cases b with
      | tup ys =>
        cases m with
        | zero => simp [D.fit] at hb
        | succ m => simp only [D.py, D.ltb]; rw [PySem.W.dataLt_tuple]; exact lt_pyL (n := n) (m := m) xs ys (by simpa [D.fit] using ha) (by simpa [D.fit] using hb) (by simpa [D.alk] using h)
      | _ => simp [D.alk] at h
  | n, m, .lst xs, b, ha, hb, h => by
    cases n with
    | zero => simp [D.fit] at ha
    | succ n =>
      cases b with
      | lst ys =>
        cases m with
        | zero => simp [D.fit] at hb
        | succ m => simp only [D.py, D.ltb]; rw [PySem.W.dataLt_list]; exact lt_pyL (n := n) (m := m) xs ys (by simpa [D.fit] using ha) (by simpa [D.fit] using hb) (by simpa [D.alk] using h)
      | _ => simp [D.alk] at h
  | n, _, .dct _, _, f, _, _ => by cases n <;> simp [D.fit] at f
  | n, _, .scr _, _, f, _, _ => by cases n <;> simp [D.fit] at f
  | n, _, .obj _ _, _, f, _, _ => by cases n <;> simp [D.fit] at f
  | n, _, .fn _, _, f, _, _ => by cases n <;> simp [D.fit] at f
  | n, _, .exn _ _, _, f, _, _ => by cases n <;> simp [D.fit] at f
theorem lt_pyL : ∀ {n m : Nat} (a b : List D), (∀ x ∈ a, x.fit n = true) → (∀ x ∈ b, x.fit m = true) → alkL a b = true → PyProof.Rows.lexLt PyProof.Rows.itemOrd (PySem.W.keyToksAll (pyL a)) (PySem.W.keyToksAll (pyL b)) = ltbL a b
  | _, _, [], [], _, _, _ => by simp only [pyL, ltbL]; exact PyProof.Rows.lex_irrefl _
  | _, _, [], y :: ys, _, _, _ => by
    simp only [pyL, ltbL]
    rw [PySem.W.toks_all_cons]
    simp only [PySem.W.keyToksAll]
    rw [PyProof.Rows.lex_diff (O := PyProof.Rows.itemOrd) (by simp)]
    rfl
  | _, _, x :: xs, [], _, _, _ => by
    simp only [pyL, ltbL]
    rw [PySem.W.toks_all_cons]
    simp only [PySem.W.keyToksAll]
    rw [PyProof.Rows.lex_diff (O := PyProof.Rows.itemOrd) (by simp)]
    rfl
  | n, m, x :: xs, y :: ys, ha, hb, h => by
    simp only [alkL, Bool.and_eq_true] at h
    simp only [pyL, ltbL]
    rw [PySem.W.dataLt_cons (alike_py x y h.1), eqv_py (n := n) (m := m) x y (ha x (by simp)) (hb y (by simp)), lt_pyL (n := n) (m := m) xs ys (fun z hz => ha z (by simp [hz])) (fun z hz => hb z (by simp [hz])) h.2,
      lt_py (n := n) (m := m) x y (ha x (by simp)) (hb y (by simp)) h.1]
end
end Mi
end
section
/-! the operations on data are the model's -/
namespace Mi
open PySem L2

/-- pure growth: nothing that stood is changed; what is new in F is new in H or was F's -/
structure Grow (F H F' H' : Hp) : Prop where
  sub : Sub F' H'
  mono : Sub F F'
  keep : Sub H H'
  new : ∀ a, F' a ≠ none → F a ≠ none ∨ H a = none
theorem Grow.refl {F H : Hp} (h : Sub F H) : Grow F H F H := ⟨h, Sub.refl, Sub.refl, fun _ q => .inl q⟩
theorem Grow.laid {F H : Hp} {p : Addr} {o : HO} (h : Sub F H) (hp : H p = none) : Grow F H (upd F p o) (upd H p o) :=
  ⟨h.both, Sub.new Sub.refl (by cases q : F p with | none => rfl | some u => have := h _ _ q; rw [hp] at this; cases this), Sub.new Sub.refl hp, fun a q => by
    by_cases ha : a = p
    · subst ha; exact .inr hp
    · rw [upd_ne ha] at q; exact .inl q⟩
theorem Sub.noneOf {F H : Hp} {p : Addr} (h : Sub F H) (hp : H p = none) : F p = none := by
  cases q : F p with
  | none => rfl
  | some u => have := h _ _ q; rw [hp] at this; cases this

section
variable (fa : Nat → Option Addr) (K : PySem.W.Frag)
/-- the value d comes, in a heap that has grown -/
def Out (F H : Hp) (d : D) (Q : VK) : Prop := ∀ z F' H', Grow F H F' H' → Rep fa K F' d z → Q z H'
/-- a new list of ds comes; it is not frozen yet -/
def OutL (F H : Hp) (ds : List D) (Q : VK) : Prop := ∀ p vs, H p = none → RepL fa K F ds vs → Q (.ref p) (upd H p (.lst vs))
end
section
variable {X : Cx} {fa : Nat → Option Addr} {F H : Hp} {Q : VK}
theorem Out.same {K : PySem.W.Frag} {d : D} {z : V} (q : Out fa K F H d Q) (h : Sub F H) (r : Rep fa K F d z) : Q z H := q z F H (.refl h) r
theorem Out.tup {K : PySem.W.Frag} {ds : List D} {vs : List V} {p : Addr} (q : Out fa K F H (.tup ds) Q) (h : Sub F H) (hp : H p = none) (r : RepL fa K F ds vs) : Q (.ref p) (upd H p (.tup vs)) :=
  q _ _ _ (.laid h hp) (.tup (.inl (.inl upd_same)) (r.mono (Grow.laid (o := .tup vs) h hp).mono))
theorem Out.lst {K : PySem.W.Frag} {ds : List D} (q : Out fa K F H (.lst ds) Q) (h : Sub F H) : OutL fa K F H ds Q := fun p vs hp r =>
  q _ _ _ (.laid h hp) (.lst (.inl upd_same) (r.mono (Grow.laid (o := .lst vs) h hp).mono))

/-! ### texts stay texts -/
theorem strOk_iff {x : Str} : PyData.strOk x = true ↔ ∀ c ∈ x.cps.toList, c < 0x110000 := by
  unfold PyData.strOk
  rw [← Array.all_toList, List.all_eq_true]
  simp only [decide_eq_true_eq]
theorem strOk_append {a b : Str} (ha : PyData.strOk a = true) (hb : PyData.strOk b = true) : PyData.strOk (a ++ b) = true := by
  rw [strOk_iff] at *
  intro c hc
  have : (a ++ b).cps = a.cps ++ b.cps := rfl
  rw [this, Array.toList_append, List.mem_append] at hc
  exact hc.elim (ha c) (hb c)
theorem strOk_sub {a b : Str} (hb : PyData.strOk b = true) (h : ∀ c ∈ a.cps.toList, c ∈ b.cps.toList) : PyData.strOk a = true := by
  rw [strOk_iff] at *
  exact fun c hc => hb c (h c hc)
theorem strOk_cut {z : Str} (h : PyData.strOk z = true) (lo hi : Option Int) : PyData.strOk (cutS z lo hi) = true := by
  refine strOk_sub h fun c hc => ?_
  unfold cutS at hc
  exact List.mem_of_mem_drop (List.mem_of_mem_take (by simpa using hc))
theorem strOk_sign {z : Str} (h : PyData.strOk z = true) {c : Nat} (hc : c ∈ z.cps.toList) : PyData.strOk ⟨#[c]⟩ = true := by
  rw [strOk_iff] at *
  intro d hd
  have : d = c := by simpa using hd
  subst this
  exact h d hc
theorem strOk_strSub {z : Str} (h : PyData.strOk z = true) (i j : Nat) : PyData.strOk (Builtin.Str.strSub z i j) = true := by
  refine strOk_sub h fun c hc => ?_
  unfold Builtin.Str.strSub at hc
  simp only [Array.toList_extract] at hc
  exact List.mem_of_mem_drop (List.mem_of_mem_take (by simpa [List.extract] using hc))
theorem strOk_split {x y : Str} (h : PyData.strOk x = true) : ∀ z ∈ Txt.split x y, PyData.strOk z = true := by
  intro z hz
  unfold Txt.split at hz
  split at hz
  · have : z = x := by simpa using hz
    subst this; exact h
  · split at hz
    · have : z = x := by simpa using hz
      subst this; exact h
    · unfold Builtin.Str.partsBetween at hz
      obtain ⟨p, _, rfl⟩ := List.mem_map.mp hz
      exact strOk_strSub h _ _
theorem strOk_foldl {g : Str} (hg : PyData.strOk g = true) : ∀ (ps : List Str) (acc : Array Nat), (∀ c ∈ acc.toList, c < 0x110000) → (∀ p ∈ ps, PyData.strOk p = true) →
    ∀ c ∈ (ps.foldl (fun acc p => acc ++ g.cps ++ p.cps) acc).toList, c < 0x110000
  | [], acc, h, _ => h
  | p :: ps, acc, h, hp => by
    refine strOk_foldl hg ps _ (fun c hc => ?_) fun q hq => hp q (by simp [hq])
    rw [Array.toList_append, Array.toList_append, List.mem_append, List.mem_append] at hc
    rcases hc with (hc | hc) | hc
    · exact h c hc
    · exact strOk_iff.mp hg c hc
    · exact strOk_iff.mp (hp p (by simp)) c hc
theorem strOk_join {a : Str} {ys : List Str} (ha : PyData.strOk a = true) (h : ∀ y ∈ ys, PyData.strOk y = true) : PyData.strOk (Txt.join a ys) = true := by
  rw [strOk_iff]
  unfold Txt.join Builtin.Str.glued
  refine strOk_foldl ha _ _ (fun c hc => ?_) fun p hp => h p (List.mem_of_mem_drop hp)
  cases ys with
  | nil => simp [Str.empty] at hc
  | cons y r => exact strOk_iff.mp (h y (by simp)) c (by simpa using hc)
theorem strOk_digits (m : Nat) : PyData.strOk ⟨((Nat.toDigits 10 m).map Char.toNat).toArray⟩ = true := by
  rw [strOk_iff]
  intro c hc
  obtain ⟨ch, _, rfl⟩ := List.mem_map.mp (by simpa using hc)
  have := ch.valid
  unfold Char.toNat
  have h2 : ch.val.toNat.isValidChar := this
  rcases h2 with h | h <;> omega
theorem str_num {i : Int} (h : 0 ≤ i) : (Str.ofString (toString i)) = ⟨((Nat.toDigits 10 i.toNat).map Char.toNat).toArray⟩ := by
  obtain ⟨m, rfl⟩ := Int.eq_ofNat_of_zero_le h
  have e := PySem.W.KIN.signs_num m
  cases q : Str.ofString (toString ((m : Nat) : Int)) with
  | mk cps =>
    rw [q] at e
    simp only [Int.toNat_natCast] at *
    rw [← e]
end
end Mi
end
section
/-! the rules of the operations -/
namespace Mi
open PySem L2 PySem.Spec
section
variable {X : Cx} {fa : Nat → Option Addr}

/-- two operands that stand for data, a result -/
def rD (fa : Nat → Option Addr) (K : PySem.W.Frag) (f : D → D → Option D) : R2 := fun x y H Q => ∃ F a b d, Sub F H ∧ Rep fa K F a x ∧ Rep fa K F b y ∧ f a b = some d ∧ Out fa K F H d Q

theorem op_catR : OpR X (binaryOp .Add) (fun x y H Q => ∃ l b xs zs, x = .ref l ∧ y = .ref b ∧ Rd H l (.lst xs) ∧ Rd H b (.lst zs) ∧ xs.length + zs.length ≤ sizeLine ∧ ∀ p, H p = none → Q (.ref p) (upd H p (.lst (xs ++ zs)))) := by
  intro pins s σ H x y v u Q I rx ry h
  obtain ⟨l, b, xs, zs, rfl, rfl, hH, hB, hz, q⟩ := h
  cases rx
  cases ry
  obtain ⟨z, its, n, r, e⟩ := hH.ok I.hok
  obtain ⟨z2, its2, n2, r2, e2⟩ := hB.ok I.hok
  have hl := r.length
  have hl2 := r2.length
  refine PySem.P.add_list e e2 ?_ (by rw [List.size_toArray, List.size_toArray]; omega)
  have ea : its.toArray ++ its2.toArray = (its ++ its2).toArray := by simp
  rw [ea]
  exact ⟨.ref _, _, I.lnew (t' := s.toks) (r.append r2) (by rw [List.length_append]; omega), rfl, q _ I.fresh⟩
open PyProof.Rows in
theorem op_repR : OpR X (binaryOp .Mult) (fun x y H Q => ∃ l k xs, x = .ref l ∧ y = .int k ∧ Rd H l (.lst xs) ∧ -(2 ^ 63) ≤ k ∧ k < 2 ^ 63 ∧ xs.length * k.toNat ≤ sizeLine ∧
  ∀ p, H p = none → Q (.ref p) (upd H p (.lst (List.replicate k.toNat xs).flatten))) := by
  intro pins s σ H x y v u Q I rx ry h
  obtain ⟨l, k, xs, rfl, rfl, hH, h1, h2, hz, q⟩ := h
  cases rx
  obtain ⟨t, rfl⟩ := ry
  obtain ⟨z, its, n, r, e⟩ := hH.ok I.hok
  have hl := r.length
  have hlen : its.toArray.size * k.toNat ≤ sizeLine := by rw [List.size_toArray, ← hl]; exact hz
  have hcap : ¬ its.toArray.size * k.toNat > (2 ^ 63 - 1) / 8 := by
    have : (sizeLine : Nat) ≤ (2 ^ 63 - 1) / 8 := by decide
    omega
  have hfit : ¬ (!Builtin.List.listFitsIndex k) = true := by
    rw [fitsIndex_both h1 h2]
    exact Bool.false_ne_true
  have hlong : ¬ Builtin.List.listTooLong (its.toArray.size * k.toNat) = true := by
    rw [notLongL hlen]
    exact Bool.false_ne_true
  have hnew : List.foldl (fun x1 x2 => x1 ++ x2) #[] (List.replicate (if its.toArray.isEmpty = true then 0 else k.toNat) its.toArray) = (List.replicate k.toNat its).flatten.toArray := by
    have f0 : ∀ m : Nat, List.foldl (fun x1 x2 => x1 ++ x2) #[] (List.replicate m its.toArray) = (List.replicate m its).flatten.toArray := fun m => by
      have := foldl_rep its m []
      rw [List.nil_append] at this
      exact this
    rw [f0]
    cases its with
    | nil => simp
    | cons a r' => rw [if_neg (by simp)]
  refine wpAny_binaryOp_repeat_ref (T := "list") (U := "int") (by decide) ⟨_, e, rfl⟩ (fun s' => typeIs_int s' k t) noFill_list_mul F.fills_int_mul F.slot_int_rmul repeat_list F.slot_int_index.lookup
    (call_meets F.slot_int_rmul (typeIs_int s k t) F.entry_int_rmul (F.args_int_rmul_2 _ _) (int___rmul___int_list k t l its.toArray n)
      ⟨e, rfl, ⟨_, e, rfl⟩, call_meets F.slot_list_mul ⟨_, e, rfl⟩ F.entry_list_mul (F.args_list_mul_2 _ _) (AutoListH.list___mul___list_int_3 l its.toArray n k t hfit hcap hlong) ⟨e, ?_⟩⟩)
  rw [hnew]
  exact ⟨.ref _, _, I.lnew (t' := s.toks) (r.rep k.toNat) (by rw [lm_len_rep_flat, Nat.mul_comm]; exact hz), rfl, q _ I.fresh⟩

/-- * of two factors of together less than a hundred million bits -/
def CMulB (i j : Int) : Prop := i.natAbs.log2 + j.natAbs.log2 < 100000000
theorem CMulB.ok {i j : Int} (h : CMulB i j) : IntMulOk i j := by
  have b : ∀ x : Int, Builtin.Int.intBits x ≤ x.natAbs.log2 + 1 := fun x => by
    unfold Builtin.Int.intBits
    split <;> omega
  have h1 := b i
  have h2 := b j
  have h3 : i.natAbs.log2 + j.natAbs.log2 < 100000000 := h
  have e : bitsLine = 134217728 := by decide
  intro z
  rw [Bool.and_eq_true] at z
  have z3 := z.2
  unfold Builtin.Int.intTooBig at z3
  have z3 := of_decide_eq_true z3
  rw [e] at z3
  omega
theorem op_mulB : OpR X (binaryOp .Mult) (rI CMulB fun i j => .int (i * j)) := opI fun _ _ _ _ _ _ _ hc q => PyProof.Rows.mul_int q hc.ok
theorem bop_sound (o : Operator) : OpR X (binaryOp o) (rD fa X.K (bopD o)) := by
  intro pins s σ H x y v u Q I rx ry h
  obtain ⟨F, a, b, d, hF, ra, rb, e, q⟩ := h
  cases o with
  | Add =>
    cases ra with
    | int i =>
      cases rb with
      | int j =>
        cases e
        exact op_add pins s σ H _ _ v u Q I rx ry ⟨i, j, rfl, rfl, q.same hF (.int _)⟩
      | _ => simp [bopD] at e
    | str hs =>
      cases rb with
      | str ht =>
        simp only [bopD] at e
        split at e
        · cases e
          exact op_add_str pins s σ H _ _ v u Q I rx ry ⟨_, _, rfl, rfl, by assumption, q.same hF (.str (strOk_append hs ht))⟩
        · cases e
      | _ => simp [bopD] at e
    | lst h1 r1 =>
      cases rb with
      | lst h2 r2 =>
        simp only [bopD] at e
        split at e
        · cases e
          rename_i hz
          rw [r1.length, r2.length] at hz
          exact op_catR pins s σ H _ _ v u Q I rx ry ⟨_, _, _, _, rfl, rfl, Rd.sub hF h1, Rd.sub hF h2, hz, fun p hp => q.lst hF p _ hp (r1.append r2)⟩
        · cases e
      | _ => simp [bopD] at e
    | tup h1 r1 =>
      cases rb with
      | tup h2 r2 =>
        simp only [bopD] at e
        split at e
        · cases e
          rename_i hz
          rw [r1.length, r2.length] at hz
          refine op_catA pins s σ H _ _ v u Q I rx ry ⟨_, _, _, _, rfl, rfl, SqT.sub hF h1, SqT.sub hF h2, hz, fun e => ?_, fun _ e => ?_, fun _ _ p hp => q.tup hF hp (r1.append r2)⟩
          · subst e; cases r1; exact q.same hF (.tup h2 (by simpa using r2))
          · subst e; cases r2; exact q.same hF (.tup h1 (by simpa using r1))
        · cases e
      | _ => simp [bopD] at e
    | _ => simp [bopD] at e
  | Sub =>
    cases ra with
    | int i =>
      cases rb with
      | int j =>
        cases e
        exact op_sub pins s σ H _ _ v u Q I rx ry ⟨i, j, rfl, rfl, q.same hF (.int _)⟩
      | _ => simp [bopD] at e
    | _ => simp [bopD] at e
  | Mult =>
    cases ra with
    | int i =>
      cases rb with
      | int j =>
        simp only [bopD] at e
        split at e
        · cases e
          exact op_mulB pins s σ H _ _ v u Q I rx ry ⟨i, j, rfl, rfl, by assumption, q.same hF (.int _)⟩
        · cases e
      | _ => simp [bopD] at e
    | lst h1 r1 =>
      cases rb with
      | int k =>
        simp only [bopD] at e
        split at e
        · cases e
          rename_i hz
          rw [r1.length] at hz
          exact op_repR pins s σ H _ _ v u Q I rx ry ⟨_, k, _, rfl, rfl, Rd.sub hF h1, by omega, by omega, hz.2.2, fun p hp => q.lst hF p _ hp (r1.flat _)⟩
        · cases e
      | _ => simp [bopD] at e
    | tup h1 r1 =>
      cases rb with
      | int k =>
        simp only [bopD] at e
        split at e
        · cases e
          rename_i hz
          rw [r1.length] at hz
          refine op_repT pins s σ H _ _ v u Q I rx ry ⟨_, k, _, rfl, rfl, SqT.sub hF h1, fun z => hz.1 ?_, hz.2.1, hz.2.2.1, hz.2.2.2, fun p hp => q.tup hF hp (r1.flat _)⟩
          subst z; cases r1; rfl
        · cases e
      | _ => simp [bopD] at e
    | _ => simp [bopD] at e
  | FloorDiv =>
    cases ra with
    | int i =>
      cases rb with
      | int j =>
        simp only [bopD] at e
        split at e
        · cases e
          exact op_fdivW pins s σ H _ _ v u Q I rx ry ⟨i, j, rfl, rfl, by assumption, q.same hF (.int _)⟩
        · cases e
      | _ => simp [bopD] at e
    | _ => simp [bopD] at e
  | Mod =>
    cases ra with
    | int i =>
      cases rb with
      | int j =>
        simp only [bopD] at e
        split at e
        · cases e
          exact op_mod pins s σ H _ _ v u Q I rx ry ⟨i, j, rfl, rfl, by assumption, q.same hF (.int _)⟩
        · cases e
      | _ => simp [bopD] at e
    | _ => simp [bopD] at e
  | Pow =>
    cases ra with
    | int i =>
      cases rb with
      | int j =>
        simp only [bopD] at e
        split at e
        · cases e
          rename_i hz
          exact op_pow pins s σ H _ _ v u Q I rx ry ⟨i, j, rfl, rfl, ⟨hz.1, hz.2.1, hz.2.2⟩, q.same hF (.int _)⟩
        · cases e
      | _ => simp [bopD] at e
    | _ => simp [bopD] at e
  | _ => cases ra <;> simp [bopD] at e

/-- a comparison: nothing is made -/
def rB (fa : Nat → Option Addr) (K : PySem.W.Frag) (f : D → D → Option Bool) : R2 := fun x y H Q => ∃ F a b d, Sub F H ∧ Rep fa K F a x ∧ Rep fa K F b y ∧ f a b = some d ∧ Q (.bl d) H
theorem Rep.reads {F : Hp} {d : D} {x : V} {u : Value} {pins : List (Addr × Obj)} {σ : St} {H : Hp} {s : Shared} (I : Inv X pins σ H s) (h : Sub F H) (r : Rep fa X.K F d x) (f : d.fit deep = true) (ru : RelV x u) : ∃ as, Reads s.heap u d.py as :=
  Dp.reads I d.py x u (r.dp h f) ru
theorem isNon_py {n : Nat} : ∀ {d : D}, d.fit n = true → d.isNon = false → d.py ≠ .none := by
  intro d f h
  cases d <;> simp_all [D.py, D.isNon] <;> (cases n <;> simp [D.fit] at f)
theorem depth_le {K : PySem.W.Frag} {F : Hp} {d : D} {x : V} (r : Rep fa K F d x) (f : d.fit deep = true) : d.py.depth ≤ 40 := (fit_lay r f).2
theorem any_py {n m : Nat} : ∀ (xs : List D) (a : D), (∀ x ∈ xs, x.fit n = true) → a.fit m = true → ((pyL xs).any fun z => PyData.eqv z a.py) = xs.any fun x => x.eqb a
  | [], a, _, _ => rfl
  | x :: xs, a, h, ha => by
    simp only [pyL, List.any_cons]
    rw [eqv_py (n := n) (m := m) x a (h x (by simp)) ha, any_py (n := n) (m := m) xs a (fun z hz => h z (by simp [hz])) ha]
theorem Rep.key {F : Hp} {a : D} {x : V} {k : Key} (r : Rep fa X.K F a x) (h : keyD a = some k) : x = kV k ∧ kOk k = true := by
  cases r with
  | int i => cases h; exact ⟨rfl, rfl⟩
  | str hs => cases h; exact ⟨rfl, hs⟩
  | _ => cases h
theorem Rep.keyK {F : Hp} {K : PySem.W.Frag} {a : D} {x : V} {k : Key} (r : Rep fa K F a x) (h : keyD a = some k) : x = kV k ∧ kOk k = true := by
  cases r with
  | int i => cases h; exact ⟨rfl, rfl⟩
  | str hs => cases h; exact ⟨rfl, hs⟩
  | _ => cases h
theorem RepK.has {F : Hp} {K : PySem.W.Frag} {k : Key} : ∀ {ds : List (Key × D)} {vs : List (Key × V)}, RepK fa K F ds vs → hasK ds k = (valV vs k).isSome
  | _, _, .nil => rfl
  | _, _, .cons (k := k') _ a b => by
    unfold hasK
    by_cases h : k' = k
    · rw [if_pos h, valV_pos h]; rfl
    · rw [if_neg h, valV_neg h]; exact b.has
theorem ordD_true {a b : D} (h : ordD a b = true) : a.fit deep = true ∧ b.fit deep = true ∧ a.alk b = true ∧ b.alk a = true ∧ a.isNon = false ∧ b.isNon = false := by
  unfold ordD at h
  simp only [Bool.and_eq_true, Bool.not_eq_true'] at h
  obtain ⟨⟨⟨⟨⟨h1, h2⟩, h3⟩, h4⟩, h5⟩, h6⟩ := h
  exact ⟨h1, h2, h3, h4, h5, h6⟩
theorem leG_some {a b : D} {d : Bool} (h : leG a b = some d) : a.fit deep = true ∧ b.fit deep = true ∧ a.alk b = true ∧ b.alk a = true ∧ a.isNon = false ∧ b.isNon = false ∧ d = !b.ltb a := by
  unfold leG at h
  split at h
  · rename_i q
    obtain ⟨h1, h2, h3, h4, h5, h6⟩ := ordD_true q
    exact ⟨h1, h2, h3, h4, h5, h6, (Option.some.inj h).symm⟩
  · cases h
theorem gtG_some {a b : D} {d : Bool} (h : gtG a b = some d) : a.fit deep = true ∧ b.fit deep = true ∧ a.alk b = true ∧ b.alk a = true ∧ a.isNon = false ∧ b.isNon = false ∧ d = b.ltb a := by
  unfold gtG at h
  split at h
  · rename_i q
    obtain ⟨h1, h2, h3, h4, h5, h6⟩ := ordD_true q
    exact ⟨h1, h2, h3, h4, h5, h6, (Option.some.inj h).symm⟩
  · cases h
theorem cmp_sound (o : CmpOp) (hu : X.A.units + 70 < cLine) : OpR X (compareOp o) (rB fa X.K (cmpD o)) := by
  intro pins s σ H x y v u Q I rx ry h
  obtain ⟨F, a, b, d, hF, ra, rb, e, q⟩ := h
  cases o with
  | Eq =>
    simp only [cmpD, eqD] at e
    split at e
    · rename_i hf
      rw [Bool.and_eq_true] at hf
      cases e
      refine op_eqD (by omega) pins s σ H x y v u Q I rx ry ⟨_, _, ra.dp hF hf.1, rb.dp hF hf.2, fit_shaped ra hf.1, fit_shaped rb hf.2, ?_⟩
      rw [eqv_py _ _ hf.1 hf.2]; exact q
    · cases e
  | NotEq =>
    simp only [cmpD, eqD] at e
    split at e
    · rename_i hf
      rw [Bool.and_eq_true] at hf
      cases e
      refine op_neD (by omega) pins s σ H x y v u Q I rx ry ⟨_, _, ra.dp hF hf.1, rb.dp hF hf.2, fit_shaped ra hf.1, fit_shaped rb hf.2, ?_⟩
      rw [eqv_py _ _ hf.1 hf.2]; exact q
    · cases e
  | Lt =>
    simp only [cmpD, ltD] at e
    split at e
    · rename_i hf
      simp only [Bool.and_eq_true, Bool.not_eq_true'] at hf
      obtain ⟨⟨⟨f1, f2⟩, al⟩, nn⟩ := hf
      cases e
      obtain ⟨as, r1⟩ := ra.reads I hF f1 rx
      obtain ⟨bs, r2⟩ := rb.reads I hF f2 ry
      have d1 := depth_le ra f1
      have hlt := PySem.W.rcLt_alike a.py b.py X.A s v u as bs r1 r2 (alike_py a b al) (isNon_py f1 nn) (by have := Nat.min_le_left a.py.depth b.py.depth; omega)
      refine hlt _ _ _ _ ⟨.bl _, H, I, rfl, ?_⟩
      rw [lt_py a b f1 f2 al]; exact q
    · cases e
  | LtE =>
    simp only [cmpD] at e
    rcases leD_cases e with ⟨i, j, rfl, rfl, rfl⟩ | ⟨i, j, rfl, rfl, rfl⟩ | e
    · cases ra; cases rb
      exact op_le pins s σ H _ _ v u Q I rx ry ⟨_, _, rfl, rfl, q⟩
    · cases ra; cases rb
      exact op_le_str pins s σ H _ _ v u Q I rx ry ⟨_, _, rfl, rfl, q⟩
    · obtain ⟨f1, f2, al, bl, an, bn, e⟩ := leG_some e
      subst e
      obtain ⟨as, r1⟩ := ra.reads I hF f1 rx
      obtain ⟨bs, r2⟩ := rb.reads I hF f2 ry
      have d1 := depth_le ra f1
      refine PySem.W.le_data r1 r2 (alike_py a b al) (isNon_py f1 an) (by have := Nat.min_le_left a.py.depth b.py.depth; omega) ⟨.bl _, H, I, rfl, ?_⟩
      rw [lt_py b a f2 f1 bl]; exact q
  | Gt =>
    simp only [cmpD] at e
    rcases gtD_cases e with ⟨i, j, rfl, rfl, rfl⟩ | ⟨i, j, rfl, rfl, rfl⟩ | e
    · cases ra; cases rb
      exact op_gt pins s σ H _ _ v u Q I rx ry ⟨_, _, rfl, rfl, q⟩
    · cases ra; cases rb
      exact op_gt_str pins s σ H _ _ v u Q I rx ry ⟨_, _, rfl, rfl, q⟩
    · obtain ⟨f1, f2, al, bl, an, bn, e⟩ := gtG_some e
      subst e
      obtain ⟨as, r1⟩ := ra.reads I hF f1 rx
      obtain ⟨bs, r2⟩ := rb.reads I hF f2 ry
      have d1 := depth_le ra f1
      refine PySem.W.gt_data r1 r2 (alike_py a b al) (isNon_py f1 an) (by have := Nat.min_le_left a.py.depth b.py.depth; omega) ⟨.bl _, H, I, rfl, ?_⟩
      rw [lt_py b a f2 f1 bl]; exact q
  | GtE =>
    simp only [cmpD] at e
    rcases leD_cases e with ⟨i, j, rfl, rfl, rfl⟩ | ⟨i, j, rfl, rfl, rfl⟩ | e
    · cases ra; cases rb
      exact op_ge pins s σ H _ _ v u Q I rx ry ⟨_, _, rfl, rfl, q⟩
    · cases ra; cases rb
      exact op_ge_str pins s σ H _ _ v u Q I rx ry ⟨_, _, rfl, rfl, q⟩
    · obtain ⟨f1, f2, al, bl, an, bn, e⟩ := leG_some e
      subst e
      obtain ⟨as, r1⟩ := ra.reads I hF f2 rx
      obtain ⟨bs, r2⟩ := rb.reads I hF f1 ry
      have d1 := depth_le ra f2
      refine PySem.W.ge_data r1 r2 (alike_py a b bl) (isNon_py f2 bn) (by have := Nat.min_le_left a.py.depth b.py.depth; omega) ⟨.bl _, H, I, rfl, ?_⟩
      rw [lt_py a b f2 f1 bl]; exact q
  | Is =>
    cases rb <;> simp only [cmpD] at e <;> first | cases e | skip
    refine op_isN pins s σ H _ _ v u Q I rx ry ⟨rfl, ?_⟩
    cases ra <;> exact q
  | IsNot =>
    cases rb <;> simp only [cmpD] at e <;> first | cases e | skip
    refine op_notN pins s σ H _ _ v u Q I rx ry ⟨rfl, ?_⟩
    cases ra <;> exact q
  | In =>
    simp only [cmpD, inD] at e
    cases rb with
    | lst h1 r1 =>
      simp only [inD] at e
      split at e
      · rename_i hf
        rw [Bool.and_eq_true] at hf
        cases e
        have q' := q
        refine op_inD (by omega) pins s σ H x _ v u Q I rx ry ⟨a.py, _, ra.dp hF hf.1, Rep.dp hF (Rep.lst h1 r1) hf.2, fit_shaped ra hf.1, fit_shaped (Rep.lst h1 r1) hf.2, ?_⟩
        rw [any_py (n := 39) (m := 40) _ a (by simpa [D.fit, deep] using hf.2) hf.1]; exact q
      · cases e
    | tup h1 r1 =>
      simp only [inD] at e
      split at e
      · rename_i hf
        rw [Bool.and_eq_true] at hf
        cases e
        obtain ⟨as, q1⟩ := ra.reads I hF hf.1 rx
        obtain ⟨bs, q2⟩ := Rep.reads I hF (Rep.tup h1 r1) hf.2 ry
        obtain ⟨l1, l2⟩ := fit_lay (Rep.tup h1 r1) hf.2
        obtain ⟨l3, l4⟩ := fit_lay ra hf.1
        simp only [D.py] at q2 l1 l2
        refine SeqAt.in_tuple_reads q2 q1 (by simpa [PyData.canLay0] using l1) l3 (by have := Nat.min_le_right (PyData.depthAll (pyL ‹List D›)) a.py.depth; unfold deep at l4; omega) ⟨.bl _, H, I, rfl, ?_⟩
        rw [any_py (n := 39) (m := 40) _ a (by simpa [D.fit, deep] using hf.2) hf.1]; exact q
      · cases e
    | str hs =>
      simp only [inD] at e
      cases ra <;> simp only at e <;> first | cases e | skip
      exact op_in_str pins s σ H _ _ v u Q I rx ry ⟨_, _, rfl, rfl, q⟩
    | dct h1 r1 =>
      simp only [inD] at e
      cases hk : keyD a with
      | none => rw [hk] at e; cases e
      | some k =>
        rw [hk] at e
        cases e
        cases ry
        refine d_in (by omega) I (DGet.k (k := k) (hF _ _ h1)) (by rw [← (ra.key hk).1]; exact rx) fun s' J => ⟨.bl _, H, J, rfl, ?_⟩
        rw [← r1.has]; exact q
    | _ => cases e
  | NotIn =>
    simp only [cmpD] at e
    cases rb with
    | lst h1 r1 =>
      simp only [inD] at e
      split at e
      · rename_i hf
        rw [Bool.and_eq_true] at hf
        cases e
        refine op_notInD (by omega) pins s σ H x _ v u Q I rx ry ⟨a.py, _, ra.dp hF hf.1, Rep.dp hF (Rep.lst h1 r1) hf.2, fit_shaped ra hf.1, fit_shaped (Rep.lst h1 r1) hf.2, ?_⟩
        rw [any_py (n := 39) (m := 40) _ a (by simpa [D.fit, deep] using hf.2) hf.1]; exact q
      · cases e
    | tup h1 r1 =>
      simp only [inD] at e
      split at e
      · rename_i hf
        rw [Bool.and_eq_true] at hf
        cases e
        obtain ⟨as, q1⟩ := ra.reads I hF hf.1 rx
        obtain ⟨bs, q2⟩ := Rep.reads I hF (Rep.tup h1 r1) hf.2 ry
        obtain ⟨l1, l2⟩ := fit_lay (Rep.tup h1 r1) hf.2
        obtain ⟨l3, l4⟩ := fit_lay ra hf.1
        simp only [D.py] at q2 l1 l2
        refine SeqAt.notIn_tuple_reads q2 q1 (by simpa [PyData.canLay0] using l1) l3 (by have := Nat.min_le_right (PyData.depthAll (pyL ‹List D›)) a.py.depth; unfold deep at l4; omega) ⟨.bl _, H, I, rfl, ?_⟩
        rw [any_py (n := 39) (m := 40) _ a (by simpa [D.fit, deep] using hf.2) hf.1]; exact q
      · cases e
    | str hs =>
      simp only [inD] at e
      cases ra <;> simp only [Option.map] at e <;> first | cases e | skip
      exact op_notin_str pins s σ H _ _ v u Q I rx ry ⟨_, _, rfl, rfl, q⟩
    | dct h1 r1 =>
      simp only [inD] at e
      cases hk : keyD a with
      | none => rw [hk] at e; cases e
      | some k =>
        rw [hk] at e
        cases e
        cases ry
        refine d_notIn (by omega) I (DGet.k (k := k) (hF _ _ h1)) (by rw [← (ra.key hk).1]; exact rx) fun s' J => ⟨.bl _, H, J, rfl, ?_⟩
        rw [← r1.has]; exact q
    | _ => cases e
end
end Mi
end
section
/-! sorted -/
namespace Mi
open PySem L2 PySem.Spec

section
variable {α : Type}
def insG (lt : α → α → Bool) (x : α) : List α → List α
  | [] => [x]
  | y :: ys => if lt x y then x :: y :: ys else y :: insG lt x ys
def sortG (lt : α → α → Bool) : List α → List α → List α
  | acc, [] => acc
  | acc, x :: xs => sortG lt (insG lt x acc) xs
variable {le : α → α → Bool}
theorem insG_filter (h : PySem.W.TotalLe le) (x c : α) : ∀ l : List α, l.Pairwise (fun a b => le a b = true) → (insG (fun a b => !le b a) x l).filter (PySem.W.sameRank le c) = l.filter (PySem.W.sameRank le c) ++ [x].filter (PySem.W.sameRank le c)
  | [], _ => rfl
  | y :: ys, hp => by
    obtain ⟨h1, h2⟩ := List.pairwise_cons.mp hp
    unfold insG
    cases q : le y x with
    | true =>
      simp only [Bool.not_true, Bool.false_eq_true, if_false]
      rw [List.filter_cons, insG_filter h x c ys h2]
      cases s : PySem.W.sameRank le c y <;> simp [List.filter_cons, s]
    | false =>
      simp only [Bool.not_false, if_true]
      rw [List.filter_cons]
      cases s : PySem.W.sameRank le c x with
      | false => simp [List.filter_cons, s]
      | true =>
        -- nothing of y :: ys has x's rank
        have no : (y :: ys).filter (PySem.W.sameRank le c) = [] := by
          rw [List.filter_eq_nil_iff]
          intro z hz sz
          unfold PySem.W.sameRank at s sz
          rw [Bool.and_eq_true] at s sz
          have hyz : le y z = true := by
            rcases List.mem_cons.mp hz with e | e
            · subst e; exact h.refl _
            · exact h1 z e
          have : le y x = true := h.trans _ _ _ hyz (h.trans _ _ _ sz.2 s.1)
          rw [q] at this; cases this
        rw [no]
        simp [s]
theorem insG_mem {lt : α → α → Bool} {x z : α} : ∀ {l : List α}, z ∈ insG lt x l → z = x ∨ z ∈ l
  | [], h => by simpa [insG] using h
  | y :: ys, h => by
    unfold insG at h
    split at h
    · simpa using h
    · rcases List.mem_cons.mp h with e | e
      · exact .inr (by simp [e])
      · rcases insG_mem e with e | e
        · exact .inl e
        · exact .inr (by simp [e])
theorem insG_pair (h : PySem.W.TotalLe le) (x : α) : ∀ l : List α, l.Pairwise (fun a b => le a b = true) → (insG (fun a b => !le b a) x l).Pairwise (fun a b => le a b = true)
  | [], _ => by simp [insG]
  | y :: ys, hp => by
    obtain ⟨h1, h2⟩ := List.pairwise_cons.mp hp
    unfold insG
    cases q : le y x with
    | true =>
      simp only [Bool.not_true, Bool.false_eq_true, if_false]
      refine List.pairwise_cons.mpr ⟨fun z hz => ?_, insG_pair h x ys h2⟩
      rcases insG_mem hz with e | e
      · subst e; exact q
      · exact h1 z e
    | false =>
      simp only [Bool.not_false, if_true]
      have hxy : le x y = true := (h.total x y).elim id fun e => by rw [q] at e; cases e
      refine List.pairwise_cons.mpr ⟨fun z hz => ?_, hp⟩
      rcases List.mem_cons.mp hz with e | e
      · subst e; exact hxy
      · exact h.trans _ _ _ hxy (h1 z e)
theorem sortG_spec (h : PySem.W.TotalLe le) : ∀ (xs acc : List α), acc.Pairwise (fun a b => le a b = true) →
    (sortG (fun a b => !le b a) acc xs).Pairwise (fun a b => le a b = true) ∧ ∀ c, (sortG (fun a b => !le b a) acc xs).filter (PySem.W.sameRank le c) = (acc ++ xs).filter (PySem.W.sameRank le c)
  | [], acc, hp => ⟨hp, fun c => by simp [sortG]⟩
  | x :: xs, acc, hp => by
    obtain ⟨a, b⟩ := sortG_spec h xs (insG (fun a b => !le b a) x acc) (insG_pair h x acc hp)
    refine ⟨a, fun c => ?_⟩
    show (sortG _ (insG (fun a b => !le b a) x acc) xs).filter _ = _
    rw [b c, List.filter_append, insG_filter h x c acc hp]
    simp [List.filter_append, List.filter_cons]
    split <;> simp
theorem sortG_merge (h : PySem.W.TotalLe le) (xs : List α) : sortG (fun a b => !le b a) [] xs = xs.mergeSort le := by
  obtain ⟨a, b⟩ := sortG_spec h xs [] List.Pairwise.nil
  exact PySem.W.sort_unique h a fun c => by simpa using b c
end
theorem insG_eq {lt : D → D → Bool} {x : D} : ∀ {l : List D}, (∀ y ∈ l, x.ltb y = lt x y) → ins x l = insG lt x l
  | [], _ => rfl
  | y :: ys, h => by
    unfold ins insG
    rw [h y (by simp), insG_eq fun z hz => h z (by simp [hz])]
theorem isort_eq {lt : D → D → Bool} : ∀ {xs acc : List D}, (∀ x ∈ acc ++ xs, ∀ y ∈ acc ++ xs, x.ltb y = lt x y) → isort acc xs = sortG lt acc xs
  | [], _, _ => rfl
  | x :: xs, acc, h => by
    unfold isort sortG
    rw [insG_eq fun y hy => h x (by simp) y (by simp [hy])]
    refine isort_eq fun y hy z hz => h y ?_ z ?_
    · rcases List.mem_append.mp hy with e | e
      · rcases insG_mem e with e | e
        · subst e; simp
        · simp [e]
      · simp [e]
    · rcases List.mem_append.mp hz with e | e
      · rcases insG_mem e with e | e
        · subst e; simp
        · simp [e]
      · simp [e]

section
variable {X : Cx} {fa : Nat → Option Addr}
theorem allAlk_py {xs : List D} (h : allAlk xs = true) : PySem.W.AllAlike (xs.map D.py) := by
  intro d hd d' hd'
  obtain ⟨b, hb, rfl⟩ := List.mem_map.mp hd
  obtain ⟨b', hb', rfl⟩ := List.mem_map.mp hd'
  unfold allAlk at h
  rw [List.all_eq_true] at h
  exact alike_py _ _ (List.all_eq_true.mp (h b hb) b' hb')
theorem sortable_py {xs : List D} (f : ∀ x ∈ xs, x.fit deep = true) (h : sortable xs = true) : PySem.W.Sortable (xs.map D.py) := by
  unfold sortable at h
  rw [Bool.or_eq_true, List.all_eq_true, List.all_eq_true] at h
  rcases h with h | h
  · refine .inl fun d hd => ?_
    obtain ⟨b, hb, rfl⟩ := List.mem_map.mp hd
    have q := h b hb
    split at q
    · simp only [D.py, pyL]; exact ⟨_, _, rfl⟩
    · cases q
  · refine .inr fun d hd => ?_
    obtain ⟨b, hb, rfl⟩ := List.mem_map.mp hd
    have q := h b hb
    have g := f b hb
    clear hd f h
    unfold deep at g
    cases b <;> first | (simp [D.fit] at g; done) | (simp at q; done) | exact ⟨by simp [D.py], by simp [D.py]⟩
theorem isort_merge {xs : List D} (f : ∀ x ∈ xs, x.fit deep = true) (h : allAlk xs = true) : isort [] xs = xs.mergeSort (PySem.W.dataLe false D.py) := by
  show _ = xs.mergeSort (PySem.W.sortLe (PyProof.Rows.listOrd PyProof.Rows.itemOrd) false fun b => PySem.W.keyToks (D.py b))
  rw [← sortG_merge (PySem.W.sortLe_total _ _ _)]
  refine isort_eq fun x hx y hy => ?_
  simp only [List.nil_append] at hx hy
  unfold allAlk at h
  rw [List.all_eq_true] at h
  have al := List.all_eq_true.mp (h x hx) y hy
  rw [← lt_py x y (f x hx) (f y hy) al]
  show _ = !(!PySem.W.dataLt x.py y.py)
  rw [Bool.not_not]
theorem each_rep {F H : Hp} {s : Shared} {pins : List (Addr × Obj)} {σ : St} (I : Inv X pins σ H s) (hF : Sub F H) : ∀ {ds : List D} {vs : List V} {us : List Value}, RepL fa X.K F ds vs → Vals vs us → (∀ d ∈ ds, d.fit deep = true) →
    PySem.W.EachIs (fun u d => ∃ v, RelV v u ∧ Rep fa X.K F d v) us ds ∧ PySem.W.EachIs (fun u d => ∃ as, Reads s.heap u (D.py d) as) us ds
  | _, _, _, .nil, .nil, _ => ⟨.nil, .nil⟩
  | _, _, _, .cons a b, .cons r rr, f => by
    obtain ⟨e1, e2⟩ := each_rep I hF b rr fun d hd => f d (by simp [hd])
    exact ⟨.cons ⟨_, r, a⟩ e1, .cons (a.reads I hF (f _ (by simp)) r) e2⟩
theorem rep_each {F : Hp} {K : PySem.W.Frag} : ∀ {ds : List D} {us : List Value}, PySem.W.EachIs (fun u d => ∃ v, RelV v u ∧ Rep fa K F d v) us ds → ∃ vs, Vals vs us ∧ RepL fa K F ds vs
  | _, _, .nil => ⟨[], .nil, .nil⟩
  | _, _, .cons ⟨v, r, q⟩ t => by
    obtain ⟨vs, h1, h2⟩ := rep_each t
    exact ⟨v :: vs, .cons r h1, .cons q h2⟩
theorem sorted_sound (hu : X.A.units + 70 < cLine) : CallR X (.builtin "sorted") (fun xs H Q => ∃ F ds vs a ys, xs = [.ref a] ∧ Sub F H ∧ SqL X.K H a vs ∧ RepL fa X.K F ds vs ∧ sortD ds = some ys ∧ OutL fa X.K F H ys Q) := by
  intro pins s σ H xs us Q I r h
  obtain ⟨F, ds, vs, a, ys, rfl, hF, hs, rl, e, q⟩ := h
  unfold sortD at e
  split at e
  · rename_i hf
    cases e
    simp only [Bool.and_eq_true, List.all_eq_true] at hf
    obtain ⟨⟨f, al⟩, so⟩ := hf
    obtain ⟨its, rv, hl, hz⟩ := I.list hs
    rw [Vals.ref1 r]
    obtain ⟨e1, e2⟩ := each_rep I hF rl rv f
    refine PySem.W.sorted_data (bs := ds) (enc := D.py) hl.isList e1 e2 (allAlk_py al) (sortable_py f so) (by rw [rl.length]; exact hz) (fun b hb => ?_) fun out ho eo => ?_
    · obtain ⟨i, hi⟩ := List.mem_iff_getElem?.mp hb
      obtain ⟨v, _, rb⟩ := rl.get hi
      have := depth_le rb (f b hb)
      omega
    · rw [← isort_merge f al] at eo
      obtain ⟨ws, w1, w2⟩ := rep_each eo
      obtain ⟨ep, he'⟩ := PyProof.Rows.sortedAll_at s.heap its out.toArray
      have hlen : ws.length ≤ sizeLine := by rw [w1.length, ho, rl.length]; exact hz
      exact ⟨.ref _, upd H (s.heap.objs.size + 1) (.lst ws), I.laid (t' := s.toks) (fun _ _ => PyProof.Rows.sortedAll_old) (Nat.le_succ _) ⟨hlen, out, ep, w1, by simpa using he'⟩, rfl, q _ _ (I.hok.fresh (Nat.le_succ _)) w2⟩
  · cases e
end
section
open PySem.Spec PyProof.Rows
section
variable {prog : Program} {w : World} {A : Around} {E : Value → Shared → Prop} {s : Shared} {Ty : String} {r d : Addr} {n : Nat} {P : Nat → Value → Prop} {OK : Heap → Prop}
/-- tuple(x), x a dict or a view of one -/
theorem tuple_src {Q : Value → Shared → Prop} (S : PySem.W.KdlSrc prog w Ty r d n P OK) (hh : A.handled = none) (ok : OK s.heap) (hn : n ≤ sizeLine)
    (q : ∀ (h' : Heap) (tk : Nat) (acc : Array Value), (∀ b o, s.heap.get? b = some o → h'.get? b = some o) → ItemsOf P acc n → Q (.ref h'.objs.size) { s with heap := h'.push { cls := .type "tuple", data := .seq acc }, toks := tk }) :
    wpAny (model prog w) A (call (.type "tuple") [.ref r]) Q E s := by
  have code : codeAny (model prog w) A.in1 (.call (.builtin "tuple.__new__") ⟨[.type "tuple", .ref r], []⟩) (wants (fun o s₁ => s₁.TypeIs o "tuple" ∧ Q o s₁) E) s := by
    refine codeAny_of_tree ?_
    show wpAny _ A.in1.in1 (do checkBuiltinCall "tuple.__new__" ⟨[.type "tuple", .ref r], []⟩; again (.builtin "tuple.__new__" ⟨[.type "tuple", .ref r], []⟩)) _ _ s
    refine wpAny_bind (wpAny_of_eq (F.newCall_tuple_1 _) ?_); refine wpAny_pure ⟨plainId_quiet F.plain_tuple_new _, codeAny_builtin F.entry_tuple_new ?_⟩
    rw [Around.under_plainId F.plain_tuple_new _]
    have t1 := sub_tuple_self; have t2 := init_tuple_lookup; have t3 := madeHere_tuple
    have ht : s.TypeIs (.ref r) Ty := S.type s ok
    have ha : A.in1.in1.handled = none := hh
    have nt := S.notTuple
    wp_walk using wpAny_typeOf ht, PySem.W.kdu_collect (A := A.in1.in1) S ha ok hn
    intro h' tk acc hk hacc
    show wpAny _ _ (Builtin.Tuple.tupleExact acc.toList.toArray >>= fun v => ret v) _ _ _
    have ea : acc.toList.toArray = acc := by simp
    rw [ea]
    unfold Builtin.Tuple.tupleExact
    refine wpAny_bind (wpAny_newObj_type ?_ (by have := hacc.1; show acc.size ≤ sizeLine; omega)); refine wpAny_pure ?_
    exact ⟨⟨_, Heap.get?_push_size _ rfl, rfl⟩, q h' tk acc hk hacc⟩
  refine callType_codes F.called_tuple (F.typeCall_tuple_1 _) F.entry_object_init code fun o s₁ z => ⟨z.1, F.args_object_init_2 o _, ?_⟩
  exact object_init_meets F.called_tuple.init.lookup F.called_tuple.made (by decide) prog w A.in1 _ s₁ ⟨z.1, rfl, z.2⟩
end
section
variable {X : Cx}
theorem vals_key {kvs : List (Key × V)} {vs : List (Key × Value)} {n : Nat} {acc : Array Value} (rk : KV kvs vs) (hn : vs.length = n) (h : ItemsOf (fun i v => ∃ k x, vs[i]? = some (k, x) ∧ (mixKind X.prog X.w).is k v = true) acc n) :
    Vals (kvs.map fun kv => kV kv.1) acc.toList := by
  have hl : kvs.length = vs.length := Paired.length rk
  refine vals_of_at (by have := h.1; simp; omega) fun j x w h1 h2 => ?_
  obtain ⟨k, y, e1, e2⟩ := h.2 j w (by rw [← Array.getElem?_toList]; exact h2)
  have e3 : (kvs.map (·.1))[j]? = some k := by rw [KV.keys rk, List.getElem?_map, e1]; rfl
  rw [List.getElem?_map] at h1 e3
  cases q : kvs[j]? with
  | none => rw [q] at e3; cases e3
  | some z =>
    rw [q] at h1 e3
    cases h1
    cases e3
    exact keyIs_rel e2
/-- tuple(d) -/
theorem call_tupleD (hc : X.calm = true) : CallR X (.type "tuple") (fun xs H Q => ∃ (a : Addr) (kvs : List (Key × V)), xs = [.ref a] ∧ Rd H a (.dK kvs) ∧ ∀ p, H p = none → Q (.ref p) (upd H p (.tup (kvs.map fun kv => kV kv.1)))) := by
  intro pins s σ H xs us Q I r h
  obtain ⟨a, kvs, ex, hd, q⟩ := h
  subst ex
  obtain ⟨u, eu, rx⟩ := vals1 r
  subst eu
  cases rx
  obtain ⟨z, lo, vs, rel, dd⟩ := dk_rd I.hok hd
  obtain ⟨ep, hat⟩ := dd.dictAt
  have hl : kvs.length = vs.length := rel.length
  refine tuple_src (PySem.W.kdl_dict (knd := mixKind X.prog X.w) (kvs := vs) (ep := ep) lo) (I.ok.hd hc) hat (by omega) fun h' tk acc hk hacc => ?_
  have I1 : Inv X pins σ H { s with heap := h', toks := tk } := I.kept hk
  have hv := vals_key (X := X) rel rfl hacc
  exact ⟨.ref h'.objs.size, _, I1.laid (t' := tk) (fun b o e => Heap.get?_push_of_some _ e) (Nat.le_refl _) (show ObjOk X.prog X.w _ _ _ (.tup (kvs.map fun kv => kV kv.1)) from ⟨by rw [List.length_map]; exact z, acc.toList, hv, by simpa using IsTup.new _ _⟩), rfl, q _ (I1.hok.fresh (Nat.le_refl _))⟩
/-- sorted texts are the data sorted -/
theorem rising_pair : ∀ {r : List Str} {p : Str}, PyProof.Rows.risingS p r = true → (p :: r).Pairwise fun a b => ¬ b.cps.toList < a.cps.toList
  | [], p, _ => by simp
  | x :: r, p, h => by
    unfold PyProof.Rows.risingS at h
    rw [Bool.and_eq_true, Bool.not_eq_true'] at h
    have ih := rising_pair h.2
    have h1 : ¬ x.cps.toList < p.cps.toList := fun z => by
      have := h.1
      rw [PyProof.Rows.ltCps_eq, decide_eq_false_iff_not] at this
      exact this z
    refine List.pairwise_cons.mpr ⟨fun z hz => ?_, ih⟩
    rcases List.mem_cons.mp hz with e | e
    · subst e; exact h1
    · have h2 := (List.pairwise_cons.mp ih).1 z e
      exact fun w => h2 (Std.lt_of_lt_of_le w (Std.not_lt.mp h1))
theorem isort_strs {ks ys : List Str} (hp : ys.Perm ks) (hs : PyProof.Rows.sortedS ys = true) (ok : ∀ k ∈ ks, PyData.strOk k = true) : isort [] (ks.map D.str) = ys.map D.str := by
  have hf : ∀ x ∈ ks.map D.str, x.fit deep = true := fun x hx => by obtain ⟨k, _, rfl⟩ := List.mem_map.mp hx; rfl
  have ha : allAlk (ks.map D.str) = true := by
    unfold allAlk
    rw [List.all_eq_true]
    intro x hx
    rw [List.all_eq_true]
    intro y hy
    obtain ⟨k, _, rfl⟩ := List.mem_map.mp hx
    obtain ⟨l, _, rfl⟩ := List.mem_map.mp hy
    rfl
  rw [isort_merge hf ha]
  have T := PySem.W.sortLe_total (PyProof.Rows.listOrd PyProof.Rows.itemOrd) false fun b => PySem.W.keyToks (D.py b)
  have hle : ∀ x y : Str, PySem.W.dataLe false D.py (.str x) (.str y) = !decide (y.cps.toList < x.cps.toList) := fun x y => by
    show (!PySem.W.dataLt (D.str y).py (D.str x).py) = _
    rw [lt_py (n := 0) (m := 0) (D.str y) (D.str x) rfl rfl rfl]
    rfl
  refine List.Perm.eq_of_pairwise (le := fun a b => PySem.W.dataLe false D.py a b = true) (fun a b h1 h2 h3 h4 => ?_) (List.pairwise_mergeSort T.trans (fun a b => by rw [Bool.or_eq_true]; exact T.total a b) _) ?_ ((List.mergeSort_perm _ _).trans (hp.symm.map _))
  · obtain ⟨k, _, rfl⟩ := List.mem_map.mp ((List.mergeSort_perm _ _).mem_iff.mp h1)
    obtain ⟨l, _, rfl⟩ := List.mem_map.mp h2
    rw [hle, Bool.not_eq_true', decide_eq_false_iff_not] at h3 h4
    have : k.cps.toList = l.cps.toList := Std.le_antisymm (Std.not_lt.mp h3) (Std.not_lt.mp h4)
    obtain ⟨⟨a⟩⟩ := k
    obtain ⟨⟨b⟩⟩ := l
    simp at this
    rw [this]
  · rw [List.pairwise_map]
    have : ys.Pairwise fun a b => ¬ b.cps.toList < a.cps.toList := by
      cases ys with
      | nil => exact .nil
      | cons p r => exact rising_pair hs
    exact this.imp fun {a b} h => by rw [hle, Bool.not_eq_true', decide_eq_false_iff_not]; exact h
end
end
end Mi
end
section
/-! built-in functions, methods, items, slices, truth -/
namespace Mi
open PySem L2 PySem.Spec
def biV : Bi → Value
  | .len => .builtin "len" | .tuple => .type "tuple" | .list => .type "list" | .int => .type "int" | .str => .type "str" | .abs => .builtin "abs"
  | .all => .builtin "all" | .any => .builtin "any" | .sum => .builtin "sum" | .sorted => .builtin "sorted"
  | .max1 => .builtin "max" | .min1 => .builtin "min" | .max2 => .builtin "max" | .min2 => .builtin "min"
def biFr : Bi → Bool | .list => true | .sorted => true | _ => false
/-- what follows a result: a new list, or any value -/
def Pst (fa : Nat → Option Addr) (K : PySem.W.Frag) (fr : Bool) (F H : Hp) (d : D) (Q : VK) : Prop := match fr, d with | true, .lst ds => OutL fa K F H ds Q | _, d => Out fa K F H d Q
section
variable {X : Cx} {fa : Nat → Option Addr} {K : PySem.W.Frag} {F H : Hp}
theorem bools_vals : ∀ {ds : List D} {bs : List Bool} {vs : List V}, bools ds = some bs → RepL fa K F ds vs → vs = bs.map V.bl
  | [], bs, _, e, .nil => by simp [bools] at e; subst e; rfl
  | d :: ds, bs, _, e, .cons a b => by
    cases a <;> simp only [bools] at e <;> first | cases e | skip
    cases q : bools ds with
    | none => rw [q] at e; cases e
    | some r => rw [q] at e; cases e; rw [bools_vals q b]; rfl
theorem ints_vals : ∀ {ds : List D} {bs : List Int} {vs : List V}, intsD ds = some bs → RepL fa K F ds vs → vs = bs.map V.int
  | [], bs, _, e, .nil => by simp [intsD] at e; subst e; rfl
  | d :: ds, bs, _, e, .cons a b => by
    cases a <;> simp only [intsD] at e <;> first | cases e | skip
    cases q : intsD ds with
    | none => rw [q] at e; cases e
    | some r => rw [q] at e; cases e; rw [ints_vals q b]; rfl
theorem strs_vals : ∀ {ds : List D} {bs : List Str} {vs : List V}, strsD ds = some bs → RepL fa K F ds vs → vs = bs.map V.str ∧ ∀ y ∈ bs, PyData.strOk y = true
  | [], bs, _, e, .nil => by simp [strsD] at e; subst e; exact ⟨rfl, by simp⟩
  | d :: ds, bs, _, e, .cons a b => by
    cases a <;> simp only [strsD] at e <;> first | cases e | skip
    rename_i hok
    cases q : strsD ds with
    | none => rw [q] at e; cases e
    | some r =>
      rw [q] at e; cases e
      obtain ⟨h1, h2⟩ := strs_vals q b
      rw [h1]
      exact ⟨rfl, fun y hy => (List.mem_cons.mp hy).elim (fun e => by subst e; exact hok) (h2 y)⟩
theorem strs_rep {ys : List Str} (h : ∀ y ∈ ys, PyData.strOk y = true) : RepL fa K F (ys.map .str) (ys.map V.str) := by
  induction ys with
  | nil => exact .nil
  | cons y r ih => exact .cons (.str (h y (by simp))) (ih fun z hz => h z (by simp [hz]))
theorem RepK.keys : ∀ {ds : List (Key × D)} {vs : List (Key × V)}, RepK fa K F ds vs → RepL fa K F (ds.map fun p => kD p.1) (vs.map fun p => kV p.1)
  | _, _, .nil => .nil
  | _, _, .cons (k := .inl i) _ a b => .cons (.int i) b.keys
  | _, _, .cons (k := .inr s) h a b => .cons (.str h) b.keys
theorem RepK.vals : ∀ {ds : List (Key × D)} {vs : List (Key × V)}, RepK fa K F ds vs → RepL fa K F (ds.map (·.2)) (vs.map (·.2))
  | _, _, .nil => .nil
  | _, _, .cons _ a b => .cons a b.vals
theorem RepK.strs : ∀ {ds : List (Key × D)} {vs : List (Key × V)} {ks : List Str}, RepK fa K F ds vs → strKeys ds = some ks → vs.map (·.1) = ks.map Sum.inr ∧ ∀ k ∈ ks, PyData.strOk k = true
  | _, _, _, .nil, h => by cases h; exact ⟨rfl, fun _ h => nomatch h⟩
  | _, _, _, .cons (k := .inl i) _ a b, h => by cases h
  | _, _, _, .cons (k := .inr s) (ds := ds) hk a b, h => by
    simp only [strKeys] at h
    cases z : strKeys ds with
    | none => rw [z] at h; cases h
    | some r =>
      rw [z] at h
      cases h
      obtain ⟨h1, h2⟩ := b.strs z
      exact ⟨by simp [h1], fun k hk' => (List.mem_cons.mp hk').elim (fun e => by subst e; exact hk) (h2 k)⟩
theorem RepK.put {ds : List (Key × D)} {vs : List (Key × V)} {k : Key} {d : D} {v : V} (h : RepK fa K F ds vs) (hk0 : kOk k = true) (r : Rep fa K F d v) : RepK fa K F (putD ds k d) (putK vs k v) := by
  have hany : ∀ {ds : List (Key × D)} {vs : List (Key × V)}, RepK fa K F ds vs → (ds.any fun kv => decide (kv.1 = k)) = (vs.any fun kv => decide (kv.1 = k)) := by
    intro ds
    induction ds with
    | nil => intro vs h; cases h; rfl
    | cons x xs ih => intro vs h; cases h with | cons _ r rr => simp only [List.any_cons, ih rr]
  have hmap : ∀ {ds : List (Key × D)} {vs : List (Key × V)}, RepK fa K F ds vs → RepK fa K F (ds.map fun kv => if kv.1 = k then (kv.1, d) else kv) (vs.map fun kv => if kv.1 = k then (kv.1, v) else kv) := by
    intro ds
    induction ds with
    | nil => intro vs h; cases h; exact .nil
    | cons x xs ih =>
      intro vs h
      cases h with
      | cons z r' rr =>
        rename_i k' d' v' vs'
        simp only [List.map_cons]
        by_cases hk : k' = k
        · rw [if_pos hk, if_pos hk]; exact .cons z r (ih rr)
        · rw [if_neg hk, if_neg hk]; exact .cons z r' (ih rr)
  have happ : ∀ {ds : List (Key × D)} {vs : List (Key × V)}, RepK fa K F ds vs → RepK fa K F (ds ++ [(k, d)]) (vs ++ [(k, v)]) := by
    intro ds
    induction ds with
    | nil => intro vs h; cases h; exact .cons hk0 r .nil
    | cons x xs ih => intro vs h; cases h with | cons z r' rr => exact .cons z r' (ih rr)
  unfold putD putK
  rw [hany h]
  split
  · exact hmap h
  · exact happ h
theorem RepK.putAll : ∀ {ds : List (Key × D)} {vs : List (Key × V)} {ds0 : List (Key × D)} {vs0 : List (Key × V)}, RepK fa K F ds vs → RepK fa K F ds0 vs0 → RepK fa K F (putAllD ds0 ds) (mergeK vs0 vs)
  | _, _, _, _, .nil, h => h
  | _, _, _, _, .cons k r rr, h => by have := RepK.putAll rr (RepK.put h k r); exact this
theorem maxI_spec : ∀ (ns : List Int) (m : Int), maxI m ns ∈ m :: ns ∧ ∀ y ∈ m :: ns, y ≤ maxI m ns
  | [], m => by simp [maxI]
  | x :: xs, m => by
    obtain ⟨a, b⟩ := maxI_spec xs (if x > m then x else m)
    unfold maxI
    have h1 : (if x > m then x else m) = x ∨ (if x > m then x else m) = m := by split <;> simp
    have h2 : m ≤ (if x > m then x else m) ∧ x ≤ (if x > m then x else m) := by split <;> omega
    have h3 := b _ (List.mem_cons_self)
    refine ⟨?_, fun y hy => ?_⟩
    · rcases List.mem_cons.mp a with e | e
      · rw [e]; rcases h1 with e | e <;> rw [e] <;> simp
      · simp [e]
    · simp only [List.mem_cons] at hy
      rcases hy with e | e | e
      · subst e; omega
      · subst e; omega
      · exact b y (by simp [e])
theorem minI_spec : ∀ (ns : List Int) (m : Int), minI m ns ∈ m :: ns ∧ ∀ y ∈ m :: ns, minI m ns ≤ y
  | [], m => by simp [minI]
  | x :: xs, m => by
    obtain ⟨a, b⟩ := minI_spec xs (if x < m then x else m)
    unfold minI
    have h1 : (if x < m then x else m) = x ∨ (if x < m then x else m) = m := by split <;> simp
    have h2 : (if x < m then x else m) ≤ m ∧ (if x < m then x else m) ≤ x := by split <;> omega
    have h3 := b _ (List.mem_cons_self)
    refine ⟨?_, fun y hy => ?_⟩
    · rcases List.mem_cons.mp a with e | e
      · rw [e]; rcases h1 with e | e <;> rw [e] <;> simp
      · simp [e]
    · simp only [List.mem_cons] at hy
      rcases hy with e | e | e
      · subst e; omega
      · subst e; omega
      · exact b y (by simp [e])
theorem rd_of {a : Addr} {vs : List V} (h : Sub F H) (r : Rd F a (.lst vs)) : SqL X.K H a vs := .inl (Rd.sub h r)
theorem repL1 {ds : List D} {v : V} (h : RepL fa K F ds [v]) : ∃ d, ds = [d] ∧ Rep fa K F d v := by
  cases h with | cons a b => cases b; exact ⟨_, rfl, a⟩
def rBi (fa : Nat → Option Addr) (K : PySem.W.Frag) (b : Bi) : List V → Hp → VK → Prop := fun vs H Q => ∃ F ds d, Sub F H ∧ RepL fa K F ds vs ∧ biD b ds = some d ∧ Pst fa K (biFr b) F H d Q
theorem bi_sound (hc : X.calm = true) (hu : X.A.units + 70 < cLine) (b : Bi) : CallR X (biV b) (rBi fa X.K b) := by
  intro pins s σ H vs us Q I r h
  obtain ⟨F, ds, d, hF, rl, e, q⟩ := h
  cases rl with
  | nil => cases b <;> simp [biD] at e
  | cons r1 rl =>
    cases rl with
    | cons r2 rl =>
      cases rl with
      | cons r3 rl => cases b <;> simp [biD] at e
      | nil =>
        cases b <;> (cases r1 <;> (first | (simp [biD] at e; done) | skip)) <;> (cases r2 <;> first | (simp [biD] at e; done) | skip)
        · cases e; exact call_max2 hc pins s σ H _ us Q I r ⟨_, _, rfl, Out.same q hF (.int _)⟩
        · cases e; exact call_min2 hc pins s σ H _ us Q I r ⟨_, _, rfl, Out.same q hF (.int _)⟩
    | nil =>
      cases b with
      | len =>
        cases r1 with
        | lst h1 r1 => cases e; exact call_len_seq pins s σ H _ us Q I r ⟨_, _, rfl, .inl (rd_of hF h1), by rw [← r1.length]; exact Out.same q hF (.int _)⟩
        | tup h1 r1 => cases e; exact call_len_seq pins s σ H _ us Q I r ⟨_, _, rfl, .inr (SqT.sub hF h1), by rw [← r1.length]; exact Out.same q hF (.int _)⟩
        | str hs =>
          simp only [biD] at e
          split at e
          · cases e; exact call_len_str pins s σ H _ us Q I r ⟨_, rfl, by assumption, Out.same q hF (.int _)⟩
          · cases e
        | scr h1 r1 => cases e; exact call_len_seq pins s σ H _ us Q I r ⟨_, _, rfl, .inl (SqL.sub hF h1), by rw [← r1.length]; exact Out.same q hF (.int _)⟩
        | dct h1 r1 => cases e; exact call_lenD pins s σ H _ us Q I r ⟨_, _, rfl, hF _ _ h1, by rw [← r1.length]; exact Out.same q hF (.int _)⟩
        | _ => simp [biD] at e
      | tuple =>
        cases r1 with
        | lst h1 r1 => cases e; exact call_tuple_of pins s σ H _ us Q I r ⟨_, _, rfl, .inl ⟨rd_of hF h1, fun l hl => Out.tup q hF hl r1⟩⟩
        | tup h1 r1 => cases e; exact call_tuple_of pins s σ H _ us Q I r ⟨_, _, rfl, .inr ⟨SqT.sub hF h1, Out.same q hF (.tup h1 r1)⟩⟩
        | dct h1 r1 =>
          simp only [biD] at e
          split at e
          · cases e; exact call_tupleD hc pins s σ H _ us Q I r ⟨_, _, rfl, .inl (hF _ _ h1), fun p hp => Out.tup q hF hp r1.keys⟩
          · cases e
        | _ => simp [biD] at e
      | list =>
        cases r1 with
        | lst h1 r1 => cases e; exact call_list_of pins s σ H _ us Q I r ⟨_, _, rfl, .inl (rd_of hF h1), fun l hl => q l _ hl r1⟩
        | tup h1 r1 => cases e; exact call_list_of pins s σ H _ us Q I r ⟨_, _, rfl, .inr (SqT.sub hF h1), fun l hl => q l _ hl r1⟩
        | dct h1 r1 =>
          simp only [biD] at e
          split at e
          · cases e; exact call_listD hc pins s σ H _ us Q I r ⟨_, _, rfl, .inl (hF _ _ h1), fun p hp => q p _ hp r1.keys⟩
          · cases e
        | _ => simp [biD] at e
      | int =>
        cases r1 with
        | int i => cases e; exact call_int1 pins s σ H _ us Q I r (.inl ⟨_, rfl, Out.same q hF (.int _)⟩)
        | bl i => cases e; exact call_int1 pins s σ H _ us Q I r (.inr ⟨_, rfl, Out.same q hF (.int _)⟩)
        | str hs =>
          simp only [biD] at e
          split at e
          · cases z : PySem.intText? ‹Str› with
            | none => rw [z] at e; cases e
            | some n => rw [z] at e; cases e; exact call_int_str pins s σ H _ us Q I r ⟨_, _, rfl, z, by assumption, Out.same q hF (.int _)⟩
          · cases e
        | _ => simp [biD] at e
      | str =>
        cases r1 with
        | int i =>
          simp only [biD] at e
          split at e
          · rename_i hz
            cases e
            refine call_str_int pins s σ H _ us Q I r ⟨_, rfl, hz.2, ?_⟩
            show Q (.str (Str.ofString (toString i))) H
            rw [str_num hz.1]
            exact Out.same q hF (.str (strOk_digits _))
          · cases e
        | _ => simp [biD] at e
      | abs =>
        cases r1 with
        | int i => cases e; exact call_abs pins s σ H _ us Q I r ⟨_, rfl, Out.same q hF (.int _)⟩
        | _ => simp [biD] at e
      | all =>
        cases r1 with
        | lst h1 r1 =>
          simp only [biD] at e
          cases z : bools ‹List D› with
          | none => rw [z] at e; cases e
          | some bs =>
            rw [z] at e; cases e
            have ev := bools_vals z r1
            subst ev
            exact cr_all hc pins s σ H _ us Q I r ⟨_, _, rfl, rd_of hF h1, Out.same q hF (.bl _)⟩
        | _ => simp [biD] at e
      | any =>
        cases r1 with
        | lst h1 r1 =>
          simp only [biD] at e
          cases z : bools ‹List D› with
          | none => rw [z] at e; cases e
          | some bs =>
            rw [z] at e; cases e
            have ev := bools_vals z r1
            subst ev
            exact cr_any hc pins s σ H _ us Q I r ⟨_, _, rfl, rd_of hF h1, Out.same q hF (.bl _)⟩
        | _ => simp [biD] at e
      | sum =>
        cases r1 with
        | lst h1 r1 =>
          simp only [biD] at e
          cases z : intsD ‹List D› with
          | none => rw [z] at e; cases e
          | some bs =>
            rw [z] at e; cases e
            have ev := ints_vals z r1
            subst ev
            exact cr_sum hc pins s σ H _ us Q I r ⟨_, _, rfl, rd_of hF h1, Out.same q hF (.int _)⟩
        | _ => simp [biD] at e
      | sorted =>
        cases r1 with
        | lst h1 r1 =>
          simp only [biD] at e
          cases z : sortD ‹List D› with
          | none => rw [z] at e; cases e
          | some bs => rw [z] at e; cases e; exact sorted_sound hu pins s σ H _ us Q I r ⟨F, _, _, _, _, rfl, hF, rd_of hF h1, r1, z, q⟩
        | dct h1 r1 =>
          simp only [biD] at e
          cases z : strKeys ‹List (Key × D)› with
          | none => rw [z] at e; cases e
          | some ks =>
            rw [z] at e
            simp only at e
            split at e
            · rename_i hz
              cases e
              obtain ⟨k1, k2⟩ := r1.strs z
              refine call_sortedD hc pins s σ H _ us Q I r ⟨_, _, ks, rfl, .inl (hF _ _ h1), k1, hz, fun ys p hp hs hn => ?_⟩
              rw [isort_strs hp hs k2] at q
              exact q p _ hn (strs_rep fun y hy => k2 y (hp.mem_iff.mp hy))
            · cases e
        | _ => simp [biD] at e
      | max1 =>
        cases r1 with
        | lst h1 r1 =>
          simp only [biD] at e
          cases z : intsD ‹List D› with
          | none => rw [z] at e; cases e
          | some bs =>
            rw [z] at e
            cases bs with
            | nil => cases e
            | cons n ns =>
              cases e
              have ev := ints_vals z r1
              subst ev
              obtain ⟨m1, m2⟩ := maxI_spec ns n
              refine cr_max hc pins s σ H _ us Q I r ⟨_, _, rfl, rd_of hF h1, by simp, fun m hm hle => ?_⟩
              have : m = maxI n ns := by have a1 := hle _ m1; have a2 := m2 _ hm; omega
              subst this
              exact Out.same q hF (.int _)
        | _ => simp [biD] at e
      | min1 =>
        cases r1 with
        | lst h1 r1 =>
          simp only [biD] at e
          cases z : intsD ‹List D› with
          | none => rw [z] at e; cases e
          | some bs =>
            rw [z] at e
            cases bs with
            | nil => cases e
            | cons n ns =>
              cases e
              have ev := ints_vals z r1
              subst ev
              obtain ⟨m1, m2⟩ := minI_spec ns n
              refine cr_min hc pins s σ H _ us Q I r ⟨_, _, rfl, rd_of hF h1, by simp, fun m hm hle => ?_⟩
              have : m = minI n ns := by have a1 := hle _ m1; have a2 := m2 _ hm; omega
              subst this
              exact Out.same q hF (.int _)
        | _ => simp [biD] at e
      | max2 => cases r1 <;> simp [biD] at e
      | min2 => cases r1 <;> simp [biD] at e
end
end Mi
end
section
/-! items, slices, methods, truth, isinstance -/
namespace Mi
open PySem L2 PySem.Spec
section
variable {X : Cx} {fa : Nat → Option Addr} {F H : Hp}
theorem atI_rep {K : PySem.W.Frag} {ds : List D} {vs : List V} (h : RepL fa K F ds vs) {i : Int} {d : D} (e : atI ds i = some d) : ∃ v, atI vs i = some v ∧ Rep fa K F d v := by
  unfold atI at *
  rw [← h.length]
  cases q : ixN ds.length i with
  | none => rw [q] at e; cases e
  | some j => rw [q] at e; exact h.get e
theorem atI_mem {α : Type} {xs : List α} {i : Int} {x : α} (e : atI xs i = some x) : x ∈ xs := by
  unfold atI at e
  cases q : ixN xs.length i with
  | none => rw [q] at e; cases e
  | some j => rw [q] at e; exact List.mem_of_getElem? e
theorem repK_look {K : PySem.W.Frag} : ∀ {ds : List (Key × D)} {vs : List (Key × V)} {k : Key} {d : D}, RepK fa K F ds vs → lookK ds k = some d → ∃ v, valV vs k = some v ∧ Rep fa K F d v
  | _, _, k, d, .nil, e => by simp [lookK] at e
  | _, _, k, d, .cons (k := k') _ a b, e => by
    unfold lookK at e
    by_cases h : k' = k
    · rw [if_pos h] at e
      cases e
      exact ⟨_, valV_pos h, a⟩
    · rw [if_neg h] at e
      obtain ⟨v, h1, h2⟩ := repK_look b e
      exact ⟨v, by rw [valV_neg h]; exact h1, h2⟩
theorem ix_dict (hu : X.A.units + 1 < cLine) : IxR X (fun x y H Q => ∃ a v, x = .ref a ∧ DGet H a y (some v) ∧ Q v H) := by
  intro value slice pins s σ H x y v u Q I rx ry h hs
  obtain ⟨a, w, rfl, g, q⟩ := h
  cases rx
  exact PyProof.Rows.tail_any (dict_typeIs I g) PySem.F.slot_dict_getitem.lookup (d_getItem hu I g ry fun w' s3 I3 rw' => ⟨w, H, I3, rw', q⟩) hs
theorem sub_sound (hu : X.A.units + 70 < cLine) : IxR X (rD fa X.K subD) := by
  intro value slice pins s σ H x y v u Q I rx ry h hs
  obtain ⟨F, a, b, d, hF, ra, rb, e, q⟩ := h
  cases ra with
  | lst h1 r1 =>
    cases rb <;> simp only [subD] at e <;> first | cases e | skip
    obtain ⟨z, e', rz⟩ := atI_rep r1 e
    exact ix_list value slice pins s σ H _ _ v u Q I rx ry ⟨_, _, _, _, rfl, rfl, rd_of hF h1, e', q.same hF rz⟩ hs
  | scr h1 r1 =>
    cases rb <;> simp only [subD] at e <;> first | cases e | skip
    obtain ⟨z, e', rz⟩ := atI_rep r1 e
    exact ix_list value slice pins s σ H _ _ v u Q I rx ry ⟨_, _, _, _, rfl, rfl, SqL.sub hF h1, e', q.same hF rz⟩ hs
  | tup h1 r1 =>
    cases rb <;> simp only [subD] at e <;> first | cases e | skip
    obtain ⟨z, e', rz⟩ := atI_rep r1 e
    exact ix_tup value slice pins s σ H _ _ v u Q I rx ry ⟨_, _, _, _, rfl, rfl, SqT.sub hF h1, e', q.same hF rz⟩ hs
  | str hk =>
    cases rb <;> simp only [subD] at e <;> first | cases e | skip
    split at e
    · rename_i hz
      cases z : atI (Array.toList (Str.cps ‹Str›)) ‹Int› with
      | none => rw [z] at e; cases e
      | some c =>
        rw [z] at e
        cases e
        exact ix_str value slice pins s σ H _ _ v u Q I rx ry ⟨_, _, c, rfl, rfl, hz, z, q.same hF (.str (strOk_sign hk (atI_mem z)))⟩ hs
    · cases e
  | dct h1 r1 =>
    cases rb <;> simp only [subD] at e <;> first | cases e | skip
    · obtain ⟨z, e', rz⟩ := repK_look r1 e
      exact ix_dict (by omega) value slice pins s σ H _ _ v u Q I rx ry ⟨_, z, rfl, by rw [← e']; exact DGet.k (k := .inl _) (hF _ _ h1), q.same hF rz⟩ hs
    · obtain ⟨z, e', rz⟩ := repK_look r1 e
      exact ix_dict (by omega) value slice pins s σ H _ _ v u Q I rx ry ⟨_, z, rfl, by rw [← e']; exact DGet.k (k := .inr _) (hF _ _ h1), q.same hF rz⟩ hs
  | _ => cases rb <;> simp [subD] at e
theorem cutD_rep {K : PySem.W.Frag} {ds : List D} {vs : List V} (h : RepL fa K F ds vs) (lo hi : Option Int) : RepL fa K F (cutD ds lo hi) (cutV vs lo hi) := by
  unfold cutD cutV
  rw [h.length]
  exact (h.drop _).take _
def rSlD (fa : Nat → Option Addr) (K : PySem.W.Frag) : V → Option Int → Option Int → Hp → VK → Prop := fun x lo hi H Q => ∃ F a d, Sub F H ∧ Rep fa K F a x ∧ slD a lo hi = some d ∧ Out fa K F H d Q
theorem cut_all {α : Type} (xs : List α) {lo hi : Option Int} (h : HT.sIx xs.length 0 lo = 0 ∧ HT.sIx xs.length xs.length hi = xs.length) : cutD xs lo hi = xs := by
  unfold cutD
  rw [h.1, h.2]
  simp
theorem sl_sound : SlR X (rSlD fa X.K) := by
  intro pins s σ H x v vl vu lo hi sl Q I rx hs pl pu h
  obtain ⟨F, a, d, hF, ra, e, q⟩ := h
  cases ra with
  | lst h1 r1 =>
    cases e
    exact sl_list pins s σ H _ v vl vu lo hi sl Q I rx hs pl pu ⟨_, _, rfl, rd_of hF h1, fun p hp => q.lst hF p _ hp (cutD_rep r1 lo hi)⟩
  | scr h1 r1 =>
    cases e
    exact sl_list pins s σ H _ v vl vu lo hi sl Q I rx hs pl pu ⟨_, _, rfl, SqL.sub hF h1, fun p hp => q.lst hF p _ hp (cutD_rep r1 lo hi)⟩
  | tup h1 r1 =>
    cases e
    refine sl_tupA pins s σ H _ v vl vu lo hi sl Q I rx hs pl pu ⟨_, _, rfl, SqT.sub hF h1, fun hw => ?_, fun _ p hp => q.tup hF hp (cutD_rep r1 lo hi)⟩
    rw [← r1.length] at hw
    rw [cut_all _ hw] at q
    exact q.same hF (.tup h1 r1)
  | str hk =>
    simp only [slD] at e
    split at e
    · cases e
      exact sl_str pins s σ H _ v vl vu lo hi sl Q I rx hs pl pu ⟨_, rfl, by assumption, q.same hF (.str (strOk_cut hk lo hi))⟩
    · cases e
  | _ => simp [slD] at e
theorem tru_sound {x : V} {d : D} {k : Bool} (hF : Sub F H) (r : Rep fa X.K F d x) (e : tru d = some k) : TruV X.K x H k := by
  cases r with
  | non => cases e; rfl
  | bl b => cases e; rfl
  | int i => cases e; rfl
  | str hk =>
    simp only [tru] at e
    split at e
    · cases e
      refine ⟨by assumption, ?_⟩
      rw [Bool.eq_iff_iff]
      simp
    · cases e
  | lst h1 r1 =>
    cases e
    refine .inl ⟨_, rd_of hF h1, ?_⟩
    cases r1 <;> rfl
  | tup h1 r1 =>
    cases e
    refine .inr (.inl ⟨_, SqT.sub hF h1, ?_⟩)
    cases r1 <;> rfl
  | dct h1 r1 =>
    cases e
    refine .inr (.inr ⟨_, hF _ _ h1, ?_⟩)
    cases r1 <;> rfl
  | _ => simp [tru] at e
def rMt (fa : Nat → Option Addr) (K : PySem.W.Frag) (m : Mt) : V → List V → Hp → VK → Prop := fun x vs H Q => ∃ F a ds d, Sub F H ∧ Rep fa K F a x ∧ RepL fa K F ds vs ∧ mtD m a ds = some d ∧ Out fa K F H d Q
def mtId : Mt → String | .join => "str.join" | .split => "str.split" | .index => "list.index"
theorem seqD_rep {K : PySem.W.Frag} {d : D} {x : V} {ds : List D} (hF : Sub F H) (r : Rep fa K F d x) (e : seqD d = some ds) : ∃ p vs, x = .ref p ∧ (SqL K H p vs ∨ SqT K H p vs) ∧ RepL fa K F ds vs := by
  cases r with
  | lst h1 r1 => cases e; exact ⟨_, _, rfl, .inl (.inl (Rd.sub hF h1)), r1⟩
  | tup h1 r1 => cases e; exact ⟨_, _, rfl, .inr (SqT.sub hF h1), r1⟩
  | _ => simp [seqD] at e
theorem pyL_map (xs : List D) : pyL xs = xs.map D.py := by
  induction xs with
  | nil => rfl
  | cons x r ih => simp [pyL, ih]
theorem mt_sound (hu : X.A.units + 70 < cLine) (m : Mt) : MtR X (mtId m) (rMt fa X.K m) := by
  intro pins s σ H x vs v us Q I rx rs h
  obtain ⟨F, a, ds, d, hF, ra, rl, e, q⟩ := h
  cases m with
  | join =>
    cases ra <;> (try (simp [mtD] at e; done))
    rename_i hk
    cases rl with
    | nil => simp [mtD] at e
    | cons r1 rl =>
      cases rl with
      | cons _ _ => simp [mtD] at e
      | nil =>
        simp only [mtD] at e
        cases z : seqD ‹D› with
        | none => rw [z] at e; cases e
        | some xs =>
          rw [z] at e
          cases z2 : strsD xs with
          | none => rw [Option.bind_some, z2] at e; cases e
          | some ys =>
            rw [Option.bind_some, z2, Option.bind_some] at e
            split at e
            · cases e
              obtain ⟨p, ws, rfl, hp, rw'⟩ := seqD_rep hF r1 z
              obtain ⟨e1, e2⟩ := strs_vals z2 rw'
              subst e1
              exact mt_join pins s σ H _ _ v us Q I rx rs ⟨_, p, ys, rfl, rfl, hp, by assumption, q.same hF (.str (strOk_join hk e2))⟩
            · cases e
  | split =>
    cases ra <;> (try (simp [mtD] at e; done))
    rename_i hk
    cases rl with
    | nil => simp [mtD] at e
    | cons r1 rl =>
      cases rl with
      | cons _ _ => simp [mtD] at e
      | nil =>
        cases r1 <;> (try (simp [mtD] at e; done))
        simp only [mtD] at e
        split at e
        · rename_i hz
          cases e
          exact mt_split pins s σ H _ _ v us Q I rx rs ⟨_, _, rfl, rfl, hz.1, hz.2, fun p hp => q.lst hF p _ hp (strs_rep (strOk_split hk))⟩
        · cases e
  | index =>
    cases ra with
    | @lst a vs ds h1 r1 =>
      cases rl with
      | nil => simp [mtD] at e
      | @cons y _ _ _ r2 rl =>
        cases rl with
        | cons _ _ => simp [mtD] at e
        | nil =>
          simp only [mtD] at e
          split at e
          · rename_i hf
            rw [Bool.and_eq_true] at hf
            unfold idxD at e
            cases z : List.findIdx? (fun x => D.eqb x y) ds with
            | none => rw [z] at e; cases e
            | some j =>
              rw [z] at e
              cases e
              obtain ⟨hj, hz1, hz2⟩ := List.findIdx?_eq_some_iff_getElem.mp z
              have hl := Rep.dp (K := X.K) hF (Rep.lst h1 r1) hf.1
              simp only [D.py, pyL_map] at hl
              have fx : ∀ x ∈ ds, x.fit 39 = true := by simpa [D.fit, deep] using hf.1
              have sh := fit_shaped (Rep.lst h1 r1) hf.1
              simp only [D.py, pyL_map] at sh
              refine mt_indexD (by omega) pins s σ H _ _ v us Q I rx rs ⟨_, _, _, _, j, _, rfl, rfl, hl, r2.dp hF hf.2, sh, fit_shaped r2 hf.2, by rw [List.getElem?_map, List.getElem?_eq_getElem hj]; rfl, ?_, fun m z' hm hz' => ?_, q.same hF (.int _)⟩
              · rw [eqv_py _ _ (fx _ (List.getElem_mem hj)) hf.2]; exact hz1
              · have hml := Nat.lt_trans hm hj
                rw [List.getElem?_map, List.getElem?_eq_getElem hml] at hz'
                cases hz'
                rw [eqv_py _ _ (fx _ (List.getElem_mem hml)) hf.2]
                simpa using hz2 m hm
          · cases e
    | _ => simp [mtD] at e
def tyD : D → String | .non => "NoneType" | .bl _ => "bool" | .int _ => "int" | .str _ => "str" | .lst _ => "list" | _ => "tuple"
/-- a value's own type -/
theorem tyx {x : V} {d : D} (hF : Sub F H) (r : Rep fa X.K F d x) (h : isDat d = true) : TyX X.K H x (.type (tyD d)) := by
  cases r with
  | non => exact .base .non
  | bl b => exact .base (.bl b)
  | int i => exact .base (.int i)
  | str hk => exact .base (.str _)
  | lst h1 r1 =>
    rcases Rd.sub hF h1 with h1 | ⟨o, h1⟩
    · exact .base (.lst h1)
    · exact .base (.frz h1)
  | tup h1 r1 =>
    rcases SqT.sub hF h1 with (h1 | ⟨o, h1⟩) | ⟨o, its, n, h1, h2, _⟩
    · exact .base (.tup h1)
    · exact .fTuple h1
    · exact .kTuple h1 h2
  | _ => simp [isDat] at h
def tyN : Ty → String | .int => "int" | .bool => "bool" | .str => "str" | .list => "list" | .tuple => "tuple" | .cls _ => "cls"
def tyPlain : Ty → Bool | .cls _ => false | _ => true
theorem kit_one {d : D} (h : isDat d = true) (t : Ty) (ht : tyPlain t = true) {K : PySem.W.Frag} :
    PySem.W.kitOne K (.type (tyD d)) (.type (tyN t)) = some (isTy d t) := by
  cases t <;> (try (simp [tyPlain] at ht; done)) <;> cases d <;> (try (simp [isDat] at h; done)) <;> exact kit_ty (by simp only [tyD, tyN, isTy]; decide +kernel)
theorem kit_any {d : D} (h : isDat d = true) {K : PySem.W.Frag} : ∀ (ts : List Ty), (∀ t ∈ ts, tyPlain t = true) →
    PySem.W.kitAny K (.type (tyD d)) (ts.map fun t => .type (tyN t)) = some (ts.any (isTy d))
  | [], _ => kitAny_nil
  | t :: ts, ht => by
    rw [List.map_cons, List.any_cons]
    refine kitAny_cons (kit_one h t (ht t (by simp))) (fun e => ?_) fun e => by rw [e]; rfl
    rw [e, Bool.false_or]
    exact kit_any h ts fun u hu => ht u (by simp [hu])
end
end Mi
end
section
/-! the state: slots over the abstract heap -/
namespace Mi
open PySem L2 PySem.Spec

/-- who owns an address: the slot that may change it (true), the slot whose locked list it is (false) -/
abbrev Ow := Addr → Option (Bool × Nat)
def mo : Option (Bool × Nat) → Bool | some (true, _) => true | _ => false
section
variable (fa : Nat → Option Addr) (K : PySem.W.Frag)
def SlotOk (H F : Hp) (ow : Ow) (i : Nat) : P → Option V → Prop
  | .un, _ => True
  | .val d, o => ∃ v, o = some v ∧ Rep fa K F d v
  | .ml xs, o => ∃ a vs, o = some (.ref a) ∧ ow a = some (true, i) ∧ F a = none ∧ H a = some (.lst vs) ∧ RepL fa K F xs vs
  | .md kds, o => ∃ a kvs, o = some (.ref a) ∧ ow a = some (true, i) ∧ F a = none ∧ H a = some (.dK kvs) ∧ RepK fa K F kds kvs
  | .lk xs, o => ∃ a vs, o = some (.ref a) ∧ ow a = some (false, i) ∧ F a = none ∧ H a = some (.lst vs) ∧ RepL fa K F xs vs
  | .ob j fs, o => ∃ a C dx vs, o = some (.ref a) ∧ fa j = some C ∧ ow a = some (true, i) ∧ ow dx = some (true, i) ∧ F a = none ∧ F dx = none ∧ H dx ≠ none ∧ dx ≠ a ∧ SlX.Slt H a C dx vs ∧ fs.length = vs.length ∧ ∀ (k : Nat) (d : D), fs[k]? = some (some d) → ∃ v, vs[k]? = some (some v) ∧ Rep fa K F d v
structure Gst (H F : Hp) (ow : Ow) (e : En) (σ : St) : Prop where
  sub : Sub F H
  own : ∀ a i, ow a = some i → F a = none ∧ H a ≠ none
  len : e.length = σ.length
  slot : ∀ i p, e[i]? = some p → ∃ o, σ[i]? = some o ∧ SlotOk fa K H F ow i p o
end
structure Evo (H F : Hp) (ow : Ow) (H' F' : Hp) (ow' : Ow) : Prop where
  mono : Sub F F'
  keep : ∀ a o, H a = some o → mo (ow a) = false → H' a = some o
  dom : ∀ a, H a ≠ none → H' a ≠ none
  newF : ∀ a, F' a ≠ none → F a ≠ none ∨ ow a ≠ none ∨ H a = none
  newO : ∀ a, ow' a ≠ none → ow a ≠ none ∨ H a = none
  newM : ∀ a, mo (ow' a) = true → mo (ow a) = true ∨ H a = none
section
variable {fa : Nat → Option Addr} {K : PySem.W.Frag} {H F H1 F1 H2 F2 : Hp} {ow ow1 ow2 : Ow} {e e1 : En} {σ : St}
/-- what a slot holds is told by its own addresses -/
theorem SlotOk.move {i : Nat} {p : P} {o : Option V} {H F H' F' : Hp} {ow ow' : Ow} (s : SlotOk fa K H F ow i p o) (mono : Sub F F') (keep : ∀ a b u, ow a = some (b, i) → F a = none → H a = some u → ow' a = some (b, i) ∧ F' a = none ∧ H' a = some u) : SlotOk fa K H' F' ow' i p o := by
  cases p with
  | un => trivial
  | val d => obtain ⟨v, r1, r2⟩ := s; exact ⟨v, r1, r2.mono mono⟩
  | ml xs => obtain ⟨a, vs, r1, r2, r3, r4, r5⟩ := s; obtain ⟨k1, k2, k3⟩ := keep a _ _ r2 r3 r4; exact ⟨a, vs, r1, k1, k2, k3, r5.mono mono⟩
  | md xs => obtain ⟨a, vs, r1, r2, r3, r4, r5⟩ := s; obtain ⟨k1, k2, k3⟩ := keep a _ _ r2 r3 r4; exact ⟨a, vs, r1, k1, k2, k3, r5.mono mono⟩
  | lk xs => obtain ⟨a, vs, r1, r2, r3, r4, r5⟩ := s; obtain ⟨k1, k2, k3⟩ := keep a _ _ r2 r3 r4; exact ⟨a, vs, r1, k1, k2, k3, r5.mono mono⟩
  | ob j fs =>
    obtain ⟨a, C, dx, vs, r1, r2, r3, r4, r5, r6, r7, r0, r8, rl, r9⟩ := s
    obtain ⟨ud, hd⟩ : ∃ u, H dx = some u := by cases q : H dx with | none => exact absurd q r7 | some u => exact ⟨u, rfl⟩
    have hd' := (keep dx _ _ r4 r6 hd)
    refine ⟨a, C, dx, vs, r1, r2, ?_, hd'.1, ?_, hd'.2.1, by rw [hd'.2.2]; simp, r0, ?_, rl, fun k d e => let ⟨v, e1, e2⟩ := r9 k d e; ⟨v, e1, e2.mono mono⟩⟩
    · rcases r8 with ⟨z, _⟩ | ⟨z, _⟩ <;> exact (keep a _ _ r3 r5 z).1
    · rcases r8 with ⟨z, _⟩ | ⟨z, _⟩ <;> exact (keep a _ _ r3 r5 z).2.1
    · rcases r8 with ⟨z, y⟩ | ⟨z, y⟩
      · exact .inl ⟨(keep a _ _ r3 r5 z).2.2, y⟩
      · exact .inr ⟨(keep a _ _ r3 r5 z).2.2, by rw [hd'.2.2, ← hd]; exact y⟩
theorem Evo.refl : Evo H F ow H F ow := ⟨Sub.refl, fun _ _ h _ => h, fun _ h => h, fun _ h => .inl h, fun _ h => .inl h, fun _ h => .inl h⟩
theorem Evo.trans (a : Evo H F ow H1 F1 ow1) (b : Evo H1 F1 ow1 H2 F2 ow2) : Evo H F ow H2 F2 ow2 where
  mono := a.mono.trans b.mono
  keep := fun x o h n => b.keep x o (a.keep x o h n) (by
    cases q : mo (ow1 x) with
    | false => rfl
    | true =>
      rcases a.newM x q with z | z
      · rw [n] at z; cases z
      · rw [z] at h; cases h)
  newM := fun x h => by
    rcases b.newM x h with z | z
    · exact a.newM x z
    · exact .inr (Classical.byContradiction fun q => a.dom x q z)
  dom := fun x h => b.dom x (a.dom x h)
  newF := fun x h => by
    rcases b.newF x h with z | z | z
    · exact a.newF x z
    · rcases a.newO x z with z | z
      · exact .inr (.inl z)
      · exact .inr (.inr z)
    · exact .inr (.inr (Classical.byContradiction fun q => a.dom x q z))
  newO := fun x h => by
    rcases b.newO x h with z | z
    · exact a.newO x z
    · exact .inr (Classical.byContradiction fun q => a.dom x q z)
theorem Sub.dom {F G : Hp} (h : Sub F G) {a : Addr} (q : F a ≠ none) : G a ≠ none := fun z => by
  cases e : F a with
  | none => exact q e
  | some o => rw [h a o e] at z; cases z
theorem Evo.grow (g : Grow F H F1 H1) : Evo H F ow H1 F1 ow :=
  ⟨g.mono, fun a o h _ => g.keep a o h, fun a h => Sub.dom g.keep h, fun a h => (g.new a h).imp id Or.inr, fun _ h => .inl h, fun _ h => .inl h⟩
theorem Gst.grow (s : Gst fa K H F ow e σ) (g : Grow F H F1 H1) : Gst fa K H1 F1 ow e σ := by
  have nf : ∀ a, F a = none → H a ≠ none → F1 a = none := fun a h1 h2 => by
    cases q : F1 a with
    | none => rfl
    | some o =>
      rcases g.new a (by rw [q]; simp) with z | z
      · exact absurd h1 z
      · exact absurd z h2
  refine ⟨g.sub, fun a i h => ?_, s.len, fun i p h => ?_⟩
  · obtain ⟨h1, h2⟩ := s.own a i h
    exact ⟨nf a h1 h2, Sub.dom g.keep h2⟩
  · obtain ⟨o, ho, hs⟩ := s.slot i p h
    exact ⟨o, ho, hs.move g.mono fun a b u h1 h2 h3 => ⟨h1, nf a h2 (by rw [h3]; simp), g.keep _ _ h3⟩⟩
/-- a new object that no one tells of is laid -/
theorem Gst.laid {p : Addr} {o : HO} (s : Gst fa K H F ow e σ) (hp : H p = none) : Gst fa K (upd H p o) F ow e σ :=
  s.grow ⟨Sub.new s.sub hp, Sub.refl, Sub.new Sub.refl hp, fun _ h => .inl h⟩
theorem Evo.laid {p : Addr} {o : HO} (hp : H p = none) (hs : Sub F H) : Evo H F ow (upd H p o) F ow :=
  Evo.grow ⟨Sub.new hs hp, Sub.refl, Sub.new Sub.refl hp, fun _ h => .inl h⟩
theorem get_gt : ∀ {e : En} {i : Nat}, gt e i = (e[i]?).getD .un
  | [], i => rfl
  | x :: r, 0 => rfl
  | x :: r, i + 1 => by
    show gt r i = _
    rw [get_gt (e := r)]
    simp
theorem gt_some {e : En} {i : Nat} {p : P} (h : gt e i = p) (hn : p ≠ .un) : e[i]? = some p := by
  rw [get_gt] at h
  cases q : e[i]? with
  | none => rw [q] at h; exact absurd h.symm hn
  | some x => rw [q] at h; exact congrArg some h
theorem st_eq {β : Type} : ∀ {e : En} {i : Nat} {p : P} {k : En → β}, st e i p k = k (e.set i p)
  | [], _, _, _ => rfl
  | x :: r, 0, _, _ => rfl
  | x :: r, i + 1, p, k => by
    show st r i p (fun t => k (x :: t)) = _
    rw [st_eq (e := r)]
    rfl
/-- a slot gets a value -/
theorem Gst.set {i : Nat} {d : D} {v : V} (s : Gst fa K H F ow e σ) (r : Rep fa K F d v) : Gst fa K H F ow (e.set i (.val d)) (σ.set i (some v)) := by
  refine ⟨s.sub, s.own, by rw [List.length_set, List.length_set, s.len], fun j p h => ?_⟩
  by_cases hj : i = j
  · subst hj
    have hl : i < e.length := by
      cases Nat.lt_or_ge i e.length with
      | inl h' => exact h'
      | inr h' => rw [List.getElem?_eq_none (by simpa using h')] at h; cases h
    rw [List.getElem?_set_self hl] at h
    cases h
    exact ⟨some v, List.getElem?_set_self (by rw [← s.len]; exact hl), v, rfl, r⟩
  · rw [List.getElem?_set_ne hj] at h
    obtain ⟨o, h1, h2⟩ := s.slot j p h
    exact ⟨o, by rw [List.getElem?_set_ne hj]; exact h1, h2⟩
/-- a list of the def's own is frozen -/
theorem Gst.freeze {i : Nat} {a : Addr} {o : HO} {d : D} {p : P} (s : Gst fa K H F ow e σ) (h1 : e[i]? = some p) (hσ : σ[i]? = some (some (.ref a))) (hown : ow a = some (true, i)) (hF : F a = none) (hH : H a = some o) (rd : ∀ {G : Hp}, Sub F G → G a = some o → Rep fa K G d (.ref a)) :
    Gst fa K H (upd F a o) (fun b => if b = a then none else ow b) (e.set i (.val d)) σ ∧ Evo H F ow H (upd F a o) (fun b => if b = a then none else ow b) ∧ Rep fa K (upd F a o) d (.ref a) := by
  have mono : Sub F (upd F a o) := Sub.new Sub.refl hF
  have rr : Rep fa K (upd F a o) d (.ref a) := rd mono upd_same
  refine ⟨⟨fun b u h => ?_, fun b j h => ?_, by rw [List.length_set, s.len], fun j q h => ?_⟩, ⟨mono, fun _ _ h _ => h, fun _ h => h, fun b h => ?_, fun b h => ?_, fun b h => ?_⟩, rr⟩
  · by_cases hb : b = a
    · subst hb; rw [upd_same] at h; cases h; exact hH
    · rw [upd_ne hb] at h; exact s.sub b u h
  · have h : (if b = a then none else ow b) = some j := h
    by_cases hb : b = a
    · rw [if_pos hb] at h; cases h
    · rw [if_neg hb] at h
      rw [upd_ne hb]
      exact s.own b j h
  · by_cases hj : i = j
    · subst hj
      have hl : i < e.length := (List.getElem?_eq_some_iff.mp h1).1
      rw [List.getElem?_set_self hl] at h
      cases h
      exact ⟨_, hσ, .ref a, rfl, rr⟩
    · rw [List.getElem?_set_ne hj] at h
      obtain ⟨u, g1, g2⟩ := s.slot j q h
      refine ⟨u, g1, g2.move mono fun b z w h1 h2 h3 => ?_⟩
      have hb : b ≠ a := fun z => by subst z; rw [hown] at h1; cases h1; exact hj rfl
      exact ⟨by show (if b = a then none else ow b) = _; rw [if_neg hb]; exact h1, by rw [upd_ne hb]; exact h2, h3⟩
  · by_cases hb : b = a
    · subst hb; exact .inr (.inl (by rw [hown]; simp))
    · rw [upd_ne hb] at h; exact .inl h
  · have h : (if b = a then none else ow b) ≠ none := h
    by_cases hb : b = a
    · rw [if_pos hb] at h; exact absurd rfl h
    · rw [if_neg hb] at h; exact .inl h
  · have h : mo (if b = a then none else ow b) = true := h
    by_cases hb : b = a
    · rw [if_pos hb] at h; cases h
    · rw [if_neg hb] at h; exact .inl h
/-- a new list is frozen -/
theorem Gst.ice {p : Addr} {o : HO} (s : Gst fa K H F ow e σ) (hF : F p = none) (hO : ow p = none) (hH : H p = some o) :
    Gst fa K H (upd F p o) ow e σ := by
  have mono : Sub F (upd F p o) := Sub.new Sub.refl hF
  have nop : ∀ b j, ow b = some j → b ≠ p := fun b j h z => by subst z; rw [hO] at h; cases h
  refine ⟨fun b u h => ?_, fun b j h => ?_, s.len, fun j q h => ?_⟩
  · by_cases hb : b = p
    · subst hb; rw [upd_same] at h; cases h; exact hH
    · rw [upd_ne hb] at h; exact s.sub b u h
  · rw [upd_ne (nop b j h)]
    exact s.own b j h
  · obtain ⟨u, g1, g2⟩ := s.slot j q h
    exact ⟨u, g1, g2.move mono fun b z w h1 h2 h3 => ⟨h1, by rw [upd_ne (nop b _ h1)]; exact h2, h3⟩⟩
end
end Mi
end
section
/-! the readings of the small language's words -/
namespace Mi
open PySem L2 PySem.Spec
/-- an exception x, by its class, its dict, the heap -/
abbrev XR := D → Value → Option Addr → Hp → Hp → Prop
section
variable (fa : Nat → Option Addr) (K : PySem.W.Frag) (xr : XR)
/-- a value comes; fr: a new list that no one else has -/
def Vd (fr : Bool) (H₀ H F : Hp) (ow : Ow) (d : D) (v : V) : Prop := match fr, d with
  | true, .lst ds => ∃ p vs, v = .ref p ∧ H₀ p = none ∧ H p = some (.lst vs) ∧ F p = none ∧ ow p = none ∧ RepL fa K F ds vs
  | true, .dct ds => ∃ p vs, v = .ref p ∧ H₀ p = none ∧ H p = some (.dK vs) ∧ F p = none ∧ ow p = none ∧ RepK fa K F ds vs
  | _, d => Rep fa K F d v
/-- what an outcome must bring -/
def Good {α : Type} (W : WX) (σ : St) (H F : Hp) (ow : Ow) (r : R α) (Q : α → En → Hp → Hp → Ow → Prop) : Prop := match r with
  | .ok a e => ∀ H' F' ow', Evo H F ow H' F' ow' → Gst fa K H' F' ow' e σ → Q a e H' F' ow'
  | .ex x e => ∀ cls dd H' F' ow', Evo H F ow H' F' ow' → Gst fa K H' F' ow' e σ → xr x cls dd H' F' → W cls dd σ H'
  | .no => False
/-- an expression's reading: from every state that stands for a row of slots -/
def tE (fr : Bool) (W : WX) (ce : CE) : TE := fun σ H Q => ∃ F ow e, Gst fa K H F ow e σ ∧ Good fa K xr W σ H F ow (ce e) fun d _ H' F' ow' => ∀ v, Vd fa K fr H H' F' ow' d v → Q v H'
def tT (W : WX) (ce : En → R Bool) : TT := fun σ H Q => ∃ F ow e, Gst fa K H F ow e σ ∧ Good fa K xr W σ H F ow (ce e) fun d _ H' _ _ => Q d H'
def tA (W : WX) (ce : En → R (List D)) : TA := fun σ H Q => ∃ F ow e, Gst fa K H F ow e σ ∧ Good fa K xr W σ H F ow (ce e) fun ds _ H' F' _ => ∀ vs, RepL fa K F' ds vs → Q vs H'
end
section
variable {fa : Nat → Option Addr} {K : PySem.W.Frag} {xr : XR} {W : WX} {σ : St} {H F H1 F1 : Hp} {ow ow1 : Ow} {α β : Type}
theorem Good.mono {r : R α} {Q Q' : α → En → Hp → Hp → Ow → Prop} (g : Good fa K xr W σ H F ow r Q) (h : ∀ a e H' F' ow', Evo H F ow H' F' ow' → Gst fa K H' F' ow' e σ → Q a e H' F' ow' → Q' a e H' F' ow') : Good fa K xr W σ H F ow r Q' := by
  cases r with
  | ok a e => exact fun H' F' ow' h1 h2 => h a e H' F' ow' h1 h2 (g H' F' ow' h1 h2)
  | ex x e => exact g
  | no => exact g
theorem Good.shift {r : R α} {Q : α → En → Hp → Hp → Ow → Prop} (g : Good fa K xr W σ H F ow r Q) (e : Evo H F ow H1 F1 ow1) : Good fa K xr W σ H1 F1 ow1 r Q := by
  cases r with
  | ok a e' => exact fun H' F' ow' h1 h2 => g H' F' ow' (e.trans h1) h2
  | ex x e' => exact fun cls dd H' F' ow' h1 h2 h3 => g cls dd H' F' ow' (e.trans h1) h2 h3
  | no => exact g
theorem Good.bind {r : R α} {f : α → En → R β} {Q : β → En → Hp → Hp → Ow → Prop} (g : Good fa K xr W σ H F ow (r.bind f) Q) :
    Good fa K xr W σ H F ow r fun a e H' F' ow' => Good fa K xr W σ H' F' ow' (f a e) Q := by
  cases r with
  | ok a e => exact fun H' F' ow' h1 h2 => Good.shift g h1
  | ex x e => exact g
  | no => exact g
theorem Good.ok {a : α} {e : En} {Q : α → En → Hp → Hp → Ow → Prop} (g : Good fa K xr W σ H F ow (.ok a e) Q) (s : Gst fa K H F ow e σ) : Q a e H F ow := g H F ow .refl s
theorem Good.lift {o : Option α} {e : En} {Q : α → En → Hp → Hp → Ow → Prop} (g : Good fa K xr W σ H F ow (lift o e) Q) : ∃ a, o = some a ∧ Good fa K xr W σ H F ow (.ok a e) Q := by
  cases o with
  | none => exact g.elim
  | some a => exact ⟨a, rfl, g⟩
theorem Vd.rep {fr : Bool} {d : D} {v : V} (h : Vd fa K false H1 H F ow d v) : Rep fa K F d v := by
  unfold Vd at h
  split at h
  · rename_i q; cases q
  · rename_i q; cases q
  · exact h
theorem Vd.of {d : D} {v : V} (h : Rep fa K F d v) : Vd fa K false H1 H F ow d v := by
  unfold Vd
  split
  · rename_i q; cases q
  · rename_i q; cases q
  · exact h
/-- the value d out of an operation -/
theorem Good.out {d : D} {e : En} {Q : VK} (g : Good fa K xr W σ H F ow (.ok d e) fun d _ H' F' ow' => ∀ v, Vd fa K false H1 H' F' ow' d v → Q v H') (s : Gst fa K H F ow e σ) : Out fa K F H d Q :=
  fun z F' H' gr r => g H' F' ow (.grow gr) (s.grow gr) z (Vd.of r)
theorem Good.pst {fr : Bool} {d : D} {e : En} {Q : VK} (g : Good fa K xr W σ H F ow (.ok d e) fun d _ H' F' ow' => ∀ v, Vd fa K fr H1 H' F' ow' d v → Q v H') (s : Gst fa K H F ow e σ) (hd : ∀ a, H1 a ≠ none → H a ≠ none) (hfr : fr = true → ∀ kvs, d ≠ .dct kvs) : Pst fa K fr F H d Q := by
  unfold Pst
  split
  · rename_i ds
    intro p vs hp r
    refine g (upd H p (.lst vs)) F ow (.laid hp s.sub) (s.laid hp) (.ref p) ⟨p, vs, rfl, Classical.byContradiction fun z => hd p z hp, upd_same, s.sub.noneOf hp, ?_, r⟩
    cases q : ow p with
    | none => rfl
    | some z => exact absurd hp (s.own p z q).2
  · rename_i fr' d' hn
    intro z F' H' gr r
    refine g H' F' ow (.grow gr) (s.grow gr) z ?_
    unfold Vd
    split
    · rename_i ds; exact absurd rfl (hn ds rfl)
    · rename_i ds; exact absurd rfl (hfr rfl ds)
    · exact r
/-- a new dict out of an operation -/
theorem Good.pstD {kvs : List (Key × D)} {e : En} {Q : VK} (g : Good fa K xr W σ H F ow (.ok (.dct kvs) e) fun d _ H' F' ow' => ∀ v, Vd fa K true H1 H' F' ow' d v → Q v H') (s : Gst fa K H F ow e σ) (hd : ∀ a, H1 a ≠ none → H a ≠ none) {p : Addr} {vs : List (Key × V)} (hp : H p = none) (r : RepK fa K F kvs vs) : Q (.ref p) (upd H p (.dK vs)) := by
  refine g (upd H p (.dK vs)) F ow (.laid hp s.sub) (s.laid hp) (.ref p) ⟨p, vs, rfl, Classical.byContradiction fun z => hd p z hp, upd_same, s.sub.noneOf hp, ?_, r⟩
  cases q : ow p with
  | none => rfl
  | some z => exact absurd hp (s.own p z q).2
end

theorem _root_.L2.PE.imp {X : Cx} {e : Expr} {t t' : TE} (h : PE X e t) (i : ∀ σ H Q, t' σ H Q → t σ H Q) : PE X e t' := ⟨fun pins s σ H Q I q => h.run pins s σ H Q I (i σ H Q q)⟩
theorem _root_.L2.PT.imp {X : Cx} {e : Expr} {t t' : TT} (h : PT X e t) (i : ∀ σ H Q, t' σ H Q → t σ H Q) : PT X e t' := ⟨fun pins s σ H Q I q => h.run pins s σ H Q I (i σ H Q q)⟩
theorem _root_.L2.PA.imp {X : Cx} {e : List Expr} {t t' : TA} (h : PA X e t) (i : ∀ σ H Q, t' σ H Q → t σ H Q) : PA X e t' := ⟨fun pos pins s σ H Q I q => h.run pos pins s σ H Q I (i σ H Q q)⟩
theorem _root_.L2.PSs.imp {X : Cx} {e : List Stmt} {t t' : TS} (h : PSs X e t) (i : ∀ D σ H, t' D σ H → t D σ H) : PSs X e t' := ⟨fun pins s σ H D I q => h.run pins s σ H D I (i D σ H q)⟩
theorem _root_.L2.PS.imp {X : Cx} {e : Stmt} {t t' : TS} (h : PS X e t) (i : ∀ D σ H, t' D σ H → t D σ H) : PS X e t' := ⟨fun pins s σ H D I q => h.run pins s σ H D I (i D σ H q)⟩

section
variable {X : Cx} {fa : Nat → Option Addr} {xr : XR} {W : WX} {e : Expr} {ce : CE}
/-- a new list may be taken as any value -/
theorem pe_weak {fr : Bool} (h : PE X e (tE fa X.K xr fr W ce)) : PE X e (tE fa X.K xr false W ce) := by
  cases fr with
  | false => exact h
  | true =>
    refine h.imp fun σ H Q ⟨F, ow, env, s, g⟩ => ⟨F, ow, env, s, ?_⟩
    cases hr : ce env with
    | ok d e' =>
      rw [hr] at g
      intro H' F' ow' ev s' v hv
      unfold Vd at hv
      split at hv
      · obtain ⟨p, vs, rfl, h0, hp, hF, hO, r⟩ := hv
        have mono : Sub F' (upd F' p (.lst vs)) := Sub.new Sub.refl hF
        refine g H' (upd F' p (.lst vs)) ow' ⟨ev.mono.trans mono, ev.keep, ev.dom, fun a h => ?_, ev.newO, ev.newM⟩ (s'.ice hF hO hp) _ (Vd.of (.lst (.inl upd_same) (r.mono mono)))
        by_cases ha : a = p
        · subst ha; exact .inr (.inr h0)
        · rw [upd_ne ha] at h; exact ev.newF a h
      · obtain ⟨p, vs, rfl, h0, hp, hF, hO, r⟩ := hv
        have mono : Sub F' (upd F' p (.dK vs)) := Sub.new Sub.refl hF
        refine g H' (upd F' p (.dK vs)) ow' ⟨ev.mono.trans mono, ev.keep, ev.dom, fun a h => ?_, ev.newO, ev.newM⟩ (s'.ice hF hO hp) _ (Vd.of (.dct upd_same (r.mono mono)))
        by_cases ha : a = p
        · subst ha; exact .inr (.inr h0)
        · rw [upd_ne ha] at h; exact ev.newF a h
      · exact g H' F' ow' ev s' v (Vd.of hv)
    | ex x e' => rw [hr] at g; exact g
    | no => rw [hr] at g; exact g
end
end Mi
end
section
/-! the check that a word of the small language is the translation of the text's word -/
namespace Mi
open PySem L2 PySem.Spec
inductive Gk where
  | fn (i : Nat) | con (i : Nat) | cls (c : Nat) | bu
deriving DecidableEq
abbrev GT := List (Str × Gk)
def gk (G : GT) (x : Str) : Option Gk := match G with | [] => none | p :: r => if p.1 = x then some p.2 else gk r x
def isNode : Str → Bool := fun x => !(x == ("__debug__" : Str)) && !(x == ("__classdict__" : Str)) && !(x == ("__name__" : Str))
def visC (sc : Scope) (x : Str) : Bool := match sc.names.lookup x with | some .local => true | some .cell => true | some .free => true | _ => false
def locC (sc : Scope) (x : Str) : Bool := match sc.names.lookup x with | some .local => true | some .cell => true | _ => false
def gloC (sc : Scope) (x : Str) : Bool := match sc.names.lookup x with | some .globalImplicit => true | _ => false
def nmC (N : List Str) (sc : Scope) (i : Nat) (x : Str) : Bool := decide (N[i]? = some x) && visC sc x && isNode x
def nmL (N : List Str) (sc : Scope) (i : Nat) (x : Str) : Bool := decide (N[i]? = some x) && locC sc x
def glC (G : GT) (sc : Scope) (x : Str) (k : Gk) : Bool := gloC sc x && decide (gk G x = some k) && isNode x
def conC : D → Const → Bool
  | .non, .none => true | .bl a, .bool b => a == b | .int a, .int b => a == b | .str a, .str b => decide (a = b) && PyData.strOk a
  | _, _ => false
def biN : Bi → Str
  | .len => "len" | .tuple => "tuple" | .list => "list" | .int => "int" | .str => "str" | .abs => "abs" | .all => "all" | .any => "any" | .sum => "sum" | .sorted => "sorted"
  | .max1 => "max" | .min1 => "min" | .max2 => "max" | .min2 => "min"
def mtN : Mt → Str | .join => "join" | .split => "split" | .index => "index"
def tyS : Ty → Str | .int => "int" | .bool => "bool" | .str => "str" | .list => "list" | .tuple => "tuple" | .cls _ => "?"
def tysC (G : GT) (sc : Scope) : List Ty → List Expr → Bool
  | [], [] => true
  | t :: ts, .Name x _ :: es => tyPlain t && decide (x = tyS t) && glC G sc x .bu && tysC G sc ts es
  | _, _ => false
def tgC (N : List Str) (sc : Scope) : Tg → Expr → Bool
  | .n i, .Name x _ => nmL N sc i x
  | .t is, .Tuple es _ _ => go is es
  | _, _ => false
where go : List Nat → List Expr → Bool
  | [], [] => true
  | i :: is, .Name x _ :: es => nmL N sc i x && go is es
  | _, _ => false
def noStar : Ms → Bool | .nil => true | .cons s _ r => !s && noStar r
def msLen : Ms → Nat | .nil => 0 | .cons _ _ r => msLen r + 1
def callee (e : Expr) (f : Str → Bool) : Bool := match e with | .Name x _ => f x | _ => false
def ownOk (N : List Str) (own : List Nat) : List (Str × Nat) := own.map fun i => (N.getD i Str.empty, i)
def tgIn (own : List Nat) : Tg → Bool | .n i => own.contains i | .t is => is.all fun i => own.contains i
def junkOk : Expr → Bool | .Starred _ _ => false | .Set _ _ _ => false | .Slice _ _ _ _ => false | _ => true
def noSuper : Expr → Bool | .Call _ [] [] _ => false | _ => true
def tgTup : Tg → Bool | .t _ => true | _ => false
/-- enumerate and zip want a target of several names -/
def itTup : It → Tg → Bool | .enum _, tg => tgTup tg | .zip _, tg => tgTup tg | _, _ => true
structure Nm where
  G : GT
  N : List Str
  /-- the parameters of a def -/
  ps : Nat → List Str
  /-- the names of what classes have -/
  an : Nat → Str
  /-- called without the arguments that it has defaults for -/
  alt : Nat → Option Nat
  /-- may be called by names -/
  byN : Nat → Bool
def Nm.np (m : Nm) (f : Nat) : Nat := (m.ps f).length
/-- the keywords' names -/
def kwNames : List Keyword → Option (List Str)
  | [] => some []
  | ⟨some x, _, _⟩ :: r => (kwNames r).map (x :: ·)
  | ⟨none, _, _⟩ :: _ => none
def kwVals : List Keyword → List Expr
  | [] => []
  | ⟨_, e, _⟩ :: r => e :: kwVals r
def strNodup : List Str → Bool
  | [] => true
  | x :: r => !r.contains x && strNodup r
/-- the argument number k of each parameter -/
def picksC (t : List Str) : List Str → List Nat → Bool
  | [], [] => true
  | p :: ps, k :: ks => decide (t[k]? = some p) && picksC t ps ks
  | _, _ => false
/-- n arguments by place, the others by the names ks, for the parameters ps, in the order js -/
def kwOk (ps : List Str) (n : Nat) (ks : List Str) (js : List Nat) : Bool :=
  decide (0 < ps.length) && decide (n ≤ ps.length) && strNodup (ps.take n ++ ks) && ks.all (fun k => ps.contains k) && picksC (ps.take n ++ ks) ps js
/-- the call of a built-in: its arguments -/
def bcC (G : GT) (sc : Scope) (x : Str) (e : Expr) : Option (List Expr × List Keyword) := match e with
  | .Call (.Name y _) es ks _ => if decide (y = x) && glC G sc y .bu then some (es, ks) else none
  | _ => none
/-- e.m() -/
def ameth (m : Str) (e : Expr) : Option Expr := match e with
  | .Call (.Attribute o name apos) [] [] pos => if decide (name = m) && noSuper o && (apos.endLine == pos.line) then some o else none
  | _ => none
/-- the parts of a word of several words -/
def pxC (G : GT) (sc : Scope) (o : Px) (e : Expr) : Option (List Expr) := match o with
  | .dnew => (match e with | .Dict [] [] _ => some [] | _ => none)
  | .dict => (match bcC G sc "dict" e with | some ([a], []) => some [a] | _ => none)
  | .dzip => (match bcC G sc "dict" e with | some ([z], []) => (match bcC G sc "zip" z with | some ([a, b], []) => some [a, b] | _ => none) | _ => none)
  | .maxd => (match bcC G sc "max" e with | some ([a], [⟨some k, d, _⟩]) => if k = "default" then some [a, d] else none | _ => none)
  | .rng1 => (match bcC G sc "list" e with | some ([z], []) => (match bcC G sc "range" z with | some ([a], []) => some [a] | _ => none) | _ => none)
  | .rng2 => (match bcC G sc "list" e with | some ([z], []) => (match bcC G sc "range" z with | some ([a, b], []) => some [a, b] | _ => none) | _ => none)
  | .tvals => (match bcC G sc "tuple" e with | some ([z], []) => (ameth "values" z).map fun a => [a] | _ => none)
  | _ => none
/-- f, or what f is called without its defaults -/
def isFn (m : Nm) (sc : Scope) (f : Nat) (x : Str) : Bool := gloC sc x && isNode x && (match gk m.G x with | some (.fn g) => decide (g = f) || decide (m.alt g = some f) | _ => false)
mutual
def chkE (m : Nm) (sc : Scope) : M → Expr → Bool
  | .k d, e => match e with | .Constant c _ _ => conC d c | _ => false
  | .v i, e => match e with | .Name x _ => nmC m.N sc i x | _ => false
  | .g i, e => match e with | .Name x _ => glC m.G sc x (.con i) | _ => false
  | .neg a, e => match e with | .UnaryOp .USub b _ => chkE m sc a b | _ => false
  | .not a, e => match e with | .UnaryOp .Not b _ => chkE m sc a b | _ => false
  | .bop o a b, e => match e with | .BinOp l p r _ => decide (o = p) && chkE m sc a l && chkE m sc b r | _ => false
  | .bool a es, e => match es with
    | .nil => junkOk e
    | .cons s' x r => match e with | .BoolOp p vs _ => decide (p = if a then .And else .Or) && chkEs m sc (.cons s' x r) vs && noStar (.cons s' x r) | _ => false
  | .cmp a o b, e => match e with | .Compare l [p] [r] _ => decide (o = p) && chkE m sc a l && chkE m sc b r | _ => false
  | .cmp2 a o b p z, e => match e with | .Compare l [o', p'] [r, q] _ => decide (o = o') && decide (p = p') && chkE m sc a l && chkE m sc b r && chkE m sc z q | _ => false
  | .ite t a b, e => match e with | .IfExp t' a' b' _ => chkE m sc t t' && chkE m sc a a' && chkE m sc b b' | _ => false
  | .tup es, e => match e with | .Tuple vs _ _ => chkEs m sc es vs | _ => false
  | .lst es, e => match e with | .List vs _ => chkEs m sc es vs | _ => false
  | .comp own elt tg it ifs, e => match e with
    | .ListComp b gs s _ => match gs with
      | [g] => blkC m.N sc s (ownOk m.N own) && own.all (fun i => decide (i < m.N.length)) && tgIn own tg && itTup it tg && tgC m.N s tg g.target && chkI m sc it g.iter && decide (g.is_async = 0) && chkE m s elt b && chkEs m s ifs g.ifs && noStar ifs && decide (msLen ifs ≤ 1)
      | _ => false
    | _ => false
  | .call f as, e => match e with
    | .Call fe es ks _ => callee fe (isFn m sc f) && ks.isEmpty && chkEs m sc as es && noStar as && decide (msLen as = m.np f)
    | _ => false
  | .callk f as js, e => match e with
    | .Call fe es kws _ => callee fe (isFn m sc f) && m.byN f && chkEs m sc as (es ++ kwVals kws) && noStar as && (match kwNames kws with | some ks => kwOk (m.ps f) es.length ks js | none => false)
    | _ => false
  | .bi b as, e => match e with
    | .Call fe es ks _ => callee fe (fun x => decide (x = biN b) && glC m.G sc x .bu) && ks.isEmpty && chkEs m sc as es && noStar as && decide (0 < msLen as)
    | _ => false
  | .mt b o as, e => match e with
    | .Call (.Attribute o' name apos) es ks pos => decide (name = mtN b) && noSuper o' && chkE m sc o o' && ks.isEmpty && chkEs m sc as es && noStar as && decide (0 < msLen as) && decide (msLen as < 20) && (apos.endLine == pos.line)
    | _ => false
  | .sub o i, e => match e with | .Subscript o' i' _ => chkE m sc o o' && chkE m sc i i' | _ => false
  | .sl o lo hi, e => match e with | .Subscript o' (.Slice l h none _) _ => chkE m sc o o' && chkO m sc lo l && chkO m sc hi h | _ => false
  | .isi o ts, e => match e with
    | .Call fe es ks _ => callee fe (fun x => decide (x = "isinstance") && glC m.G sc x .bu) && ks.isEmpty && (match es with
      | [o', .Name x p] => chkE m sc o o' && decide (ts.length = 1) && tysC m.G sc ts [.Name x p]
      | [o', .Tuple vs _ _] => chkE m sc o o' && tysC m.G sc ts vs && decide (ts.length ≤ 1000)
      | _ => false)
    | _ => false
  | .bsub i a, e => match e with | .Subscript (.Name x _) b _ => nmC m.N sc i x && chkE m sc a b | _ => false
  | .blen i, e => match e with
    | .Call fe [.Name x _] ks _ => callee fe (fun x => decide (x = "len") && glC m.G sc x .bu) && ks.isEmpty && nmC m.N sc i x
    | _ => false
  | .bcmp i o a, e => match e with | .Compare (.Name x _) [p] [r] _ => decide (p = o) && nmC m.N sc i x && chkE m sc a r | _ => false
  | .bin n a i, e => match e with | .Compare l [p] [.Name x _] _ => decide (p = if n then .NotIn else .In) && chkE m sc a l && nmC m.N sc i x | _ => false
  | .pop i as, e => match e with
    | .Call (.Attribute (.Name x _) name apos) es ks pos => decide (name = "pop") && nmC m.N sc i x && ks.isEmpty && chkEs m sc as es && noStar as && decide (msLen as ≤ 1) && (apos.endLine == pos.line)
    | _ => false
  | .px o as, e => match pxC m.G sc o e with | some es => chkEs m sc as es && noStar as | none => false
  | .attr o x, e => match e with | .Attribute o' name _ => decide (name = m.an x) && noSuper o' && chkE m sc o o' | _ => false
  | .meth o x as, e => match e with
    | .Call (.Attribute o' name apos) es ks pos => decide (name = m.an x) && noSuper o' && chkE m sc o o' && ks.isEmpty && chkEs m sc as es && noStar as && decide (msLen as < 20) && (apos.endLine == pos.line)
    | _ => false
  | .olen o, e => match e with
    | .Call fe es ks _ => callee fe (fun x => decide (x = "len") && glC m.G sc x .bu) && ks.isEmpty && (match es with | [a] => chkE m sc o a | _ => false)
    | _ => false
  | .oin n a o, e => match e with | .Compare l [p] [r] _ => decide (p = if n then .NotIn else .In) && chkE m sc a l && chkE m sc o r | _ => false
  | .dcomp own k v tg it ifs, e => match e with
    | .DictComp kx vx gs s _ => match gs with
      | [g] => blkC m.N sc s (ownOk m.N own) && own.all (fun i => decide (i < m.N.length)) && tgIn own tg && itTup it tg && tgC m.N s tg g.target && chkI m sc it g.iter && decide (g.is_async = 0) && chkE m s k kx && chkE m s v vx && chkEs m s ifs g.ifs && noStar ifs && decide (msLen ifs ≤ 1)
      | _ => false
    | _ => false
  | .comp2 own own2 elt tg it ifs tg2 it2 ifs2, e => match e with
    | .ListComp b gs s _ => match gs with
      | [g, h] => blkC m.N sc s (ownOk m.N own) && own.all (fun i => decide (i < m.N.length)) && own2.all (fun i => own.contains i) && tgIn own tg && tgIn own2 tg2 && itTup it tg && itTup it2 tg2 && tgC m.N s tg g.target && tgC m.N s tg2 h.target && chkI m sc it g.iter && chkI m s it2 h.iter &&
          decide (g.is_async = 0) && decide (h.is_async = 0) && chkE m s elt b && chkEs m s ifs g.ifs && chkEs m s ifs2 h.ifs && noStar ifs && noStar ifs2 && decide (msLen ifs ≤ 1) && decide (msLen ifs2 ≤ 1)
      | _ => false
    | _ => false
def chkEs (m : Nm) (sc : Scope) : Ms → List Expr → Bool
  | .nil, es => es.isEmpty
  | .cons s a r, es => match es with
    | [] => false
    | e :: es => (if s then (match e with | .Starred b _ => chkE m sc a b | _ => false) else chkE m sc a e) && chkEs m sc r es
def chkO (m : Nm) (sc : Scope) : Ms → Option Expr → Bool
  | .nil, e => e.isNone
  | .cons s a r, e => match e with | some b => !s && chkE m sc a b && decide (msLen r = 0) | none => false
def chkI (m : Nm) (sc : Scope) : It → Expr → Bool
  | .e a, e => chkE m sc a e
  | .b _, _ => false
  | .rng as, e => match e with
    | .Call fe es ks _ => callee fe (fun x => decide (x = "range") && glC m.G sc x .bu) && ks.isEmpty && chkEs m sc as es && noStar as && (decide (msLen as = 1) || decide (msLen as = 2))
    | _ => false
  | .enum a, e => match e with
    | .Call fe [b] ks _ => callee fe (fun x => decide (x = "enumerate") && glC m.G sc x .bu) && ks.isEmpty && chkE m sc a b
    | _ => false
  | .zip as, e => match e with
    | .Call fe es ks _ => callee fe (fun x => decide (x = "zip") && glC m.G sc x .bu) && ks.isEmpty && chkEs m sc as es && noStar as && (decide (msLen as = 2) || decide (msLen as = 3))
    | _ => false
end
/-- no starred expression is an expression of the language -/
theorem chk_plain {m : Nm} {sc : Scope} {a : M} {e : Expr} (h : chkE m sc a e = true) : ∀ env es, starEach (e :: es) env = (false, eval e env) :: starEach es env := by
  intro env es
  cases e <;> first | rfl | skip
  exfalso
  cases a with
  | bool b es => cases es <;> simp [chkE, junkOk] at h
  | px o as => unfold chkE at h; cases o <;> simp [pxC, bcC] at h
  | _ => simp [chkE] at h
end Mi
end
section
/-! the words are sound: expressions -/
namespace Mi
open PySem L2 PySem.Spec
/-- each name has its value in the table -/
inductive AllAt {α : Type} (t : List (Str × α)) : List Str → List α → Prop
  | nil : AllAt t [] []
  | cons {p : Str} {v : α} {P : List Str} {ws : List α} : t.lookup p = some v → AllAt t P ws → AllAt t (p :: P) (v :: ws)
theorem AllAt.binds {α : Type} {t : List (Str × α)} : ∀ {P : List Str} {ws : List α}, AllAt t P ws → (P.filterMap fun n => (t.lookup n).map (n, ·)) = P.zip ws
  | _, _, .nil => rfl
  | _, _, .cons h r => by
    rw [List.filterMap_cons, h]
    simp only [Option.map_some, List.zip_cons_cons]
    rw [r.binds]
theorem AllAt.nomiss {α : Type} {t : List (Str × α)} : ∀ {P : List Str} {ws : List α}, AllAt t P ws → (P.filter fun n => (t.lookup n).isNone) = []
  | _, _, .nil => rfl
  | _, _, .cons h r => by
    rw [List.filter_cons, h]
    simpa using r.nomiss
theorem lookup_append_none {α : Type} {k : Str} : ∀ {l m : List (Str × α)}, l.lookup k = none → (l ++ m).lookup k = m.lookup k
  | [], m, _ => rfl
  | (a, b) :: l, m, h => by
    rw [List.cons_append, List.lookup_cons]
    rw [List.lookup_cons] at h
    cases q : k == a with
    | true => rw [q] at h; cases h
    | false => rw [q] at h; exact lookup_append_none h
theorem kw_loop {σ : Type} {f : Str × Value → List (Str × Value) × σ → Sem (ForInStep (List (Str × Value) × σ))} {e : σ} : ∀ (l : List (Str × Value)) (s : List (Str × Value)), (∀ x ∈ l, s.lookup x.1 = none) → (l.map (·.1)).Nodup →
    (∀ x ∈ l, ∀ s, s.lookup x.1 = none → f x (s, e) = pure (ForInStep.yield (s ++ [(x.1, x.2)], e))) → forIn l (s, e) f = pure (s ++ l, e)
  | [], s, _, _, _ => by simp
  | x :: l, s, h, n, hf => by
    rw [List.forIn_cons, hf x (by simp) s (h x (by simp))]
    simp only [pure_bind]
    rw [kw_loop l]
    · simp
    · intro y hy
      rw [lookup_append_none (h y (by simp [hy]))]
      have : y.1 ≠ x.1 := fun z => by
        simp only [List.map_cons, List.nodup_cons] at n
        exact n.1 (z ▸ List.mem_map_of_mem hy)
      have hb : (y.1 == x.1) = false := by simpa using this
      simp [List.lookup_cons, hb]
    · simp only [List.map_cons, List.nodup_cons] at n; exact n.2
    · exact fun y hy => hf y (by simp [hy])
theorem kw_bind {fd : FuncData} {P : List Str} {us ws : List Value} {kws : List (Str × Value)} (hp : fd.params.posonlyargs = []) (ha : fd.params.args.map (·.arg) = P) (hv : fd.params.vararg = none) (hk : fd.params.kwonlyargs = []) (hkw : fd.params.kwarg = none) (hd : fd.defaults = .none)
   (hl : us.length ≤ P.length) (hin : ∀ k ∈ kws, k.1 ∈ P) (hfr : ∀ k ∈ kws, (P.zip us).lookup k.1 = none) (nd : (kws.map (·.1)).Nodup) (hat : AllAt (P.zip us ++ kws) P ws) : bindArgs fd ⟨us, kws⟩ = pure (P.zip ws) := by
  have hsi : seqItems? Value.none = pure none := rfl
  unfold bindArgs
  simp only [hp, ha, hv, hk, hkw, hd, List.map_nil, List.nil_append, List.append_nil]
  rw [kw_loop kws (P.zip us) hfr nd]
  · rw [hsi]
    simp only [pure_bind]
    have h1 : decide (us.length > P.length) = false := by simpa using hl
    rw [h1]
    simp [hat.nomiss, hat.binds]
  · intro x hx s hs
    have : P.contains x.1 = true := by simpa using hin x hx
    have hm : x.1 ∈ P := hin x hx
    simp [this, hs, hx]
    exact fun h => absurd hm h

/-- the parameters ps, none with a default -/
structure PB (fd : FuncData) (ps : List Str) : Prop where
  po : fd.params.posonlyargs = []
  ar : fd.params.args.map (·.arg) = ps
  va : fd.params.vararg = none
  ko : fd.params.kwonlyargs = []
  kw : fd.params.kwarg = none
  df : fd.defaults = .none
/-- how what is handed in goes to the parameters -/
structure Goes (ps : List Str) (us : List Value) (kws : List (Str × Value)) (ws : List Value) : Prop where
  len : us.length ≤ ps.length
  known : ∀ k ∈ kws, k.1 ∈ ps
  fresh : ∀ k ∈ kws, (ps.zip us).lookup k.1 = none
  nd : (kws.map (·.1)).Nodup
  at_ : AllAt (ps.zip us ++ kws) ps ws
theorem AllAt.self {α : Type} : ∀ {ps : List Str} {us : List α} {t : List (Str × α)}, ps.Nodup → ps.length = us.length → (∀ p ∈ ps, t.lookup p = none) → AllAt (t ++ ps.zip us) ps us
  | [], [], _, _, _, _ => .nil
  | p :: ps, u :: us, t, n, h, d => by
    rw [List.nodup_cons] at n
    refine .cons ?_ ?_
    · rw [lookup_append_none (d p (by simp))]; simp [List.lookup_cons]
    · have := AllAt.self (ps := ps) (us := us) (t := t ++ [(p, u)]) n.2 (by simpa using h) fun q hq => by
        rw [lookup_append_none (d q (by simp [hq]))]
        have hb : (q == p) = false := by
          have : q ≠ p := fun z => n.1 (z ▸ hq)
          simpa using this
        simp [List.lookup_cons, hb]
      simpa using this
theorem Goes.all {ps : List Str} {us : List Value} (n : ps.Nodup) (h : ps.length = us.length) : Goes ps us [] us :=
  ⟨by omega, (fun _ h => nomatch h), (fun _ h => nomatch h), List.nodup_nil, by rw [List.append_nil]; simpa using AllAt.self (t := []) n h fun _ _ => rfl⟩
theorem PB.binds {fd : FuncData} {ps : List Str} {us ws : List Value} {kws : List (Str × Value)} {s : Shared} (b : PB fd ps) (g : Goes ps us kws ws) : BindsTo s fd ⟨us, kws⟩ (ps.zip ws) :=
  .of_eq (kw_bind b.po b.ar b.va b.ko b.kw b.df g.len g.known g.fresh g.nd g.at_)
/-- the thing at a may be called: it keeps sp -/
structure Callee (P : Program) (w : World) (K : PySem.W.Frag) (mg : Str → Option Value) (base : Heap) (lev : Nat) (a : Addr) (ps : List Str) (byN : Bool) (sp : Sp) : Prop where
  kp : PySem.W.keepIn K (.ref a) = true
  run : ∀ {X : Cx} {W : WX} {pins : List (Addr × Obj)} {σ : St} {H : Hp} {s : Shared} {Q : VK} {us ws : List Value} {vs : List V} {kws : List (Str × Value)}, X.prog = P → X.w = w → X.K = K → X.mg = mg → X.base = base → Room (lev + 1) X.A → Takes X W →
    Inv X pins σ H s → Vals vs ws → Goes ps us kws ws → (byN = false → kws = []) → sp vs H Q (WE W σ) → wpAny (model X.prog X.w) X.A (PySem.call (.ref a) us kws) (EP X pins σ Q) X.xe s
theorem Callee.of_fn {b : Bool} {P : Program} {w : World} {K : PySem.W.Frag} {mg : Str → Option Value} {base : Heap} {lev : Nat} {f : Addr} {fd : FuncData} {ps : List Str} {sp : Sp} (F : FnOk P w K mg base (L2.CX P w) lev f fd ps sp) (hk : PySem.W.keepIn K (.ref f) = true) (hb : PB fd ps) :
    Callee P w K mg base lev f ps b sp := by
  refine ⟨hk, ?_⟩
  intro X W pins σ H s Q us ws vs kws h1 h2 h3 h4 h5 hr tk I r g _ h
  subst h1 h2 h3 h4 h5
  refine wpAny_call (codeAny_mono (F.run X.A X.stack s H ⟨us, kws⟩ ws vs Q (WE W σ) (hr.mono (Nat.le_succ _)) I.env0 (hb.binds g) r h) fun r s' hq => ?_)
  cases r with
  | error e => exact passAt tk σ pins H s e s' I hq
  | ok fl =>
    cases fl with
    | ret u => exact I.after hq
    | next => exact False.elim hq
    | brk => exact False.elim hq
    | cont => exact False.elim hq
theorem Callee.imp {b : Bool} {P : Program} {w : World} {K : PySem.W.Frag} {mg : Str → Option Value} {base : Heap} {lev : Nat} {f : Addr} {ps : List Str} {sp sp' : Sp} (F : Callee P w K mg base lev f ps b sp) (h : ∀ vs H Q E, sp' vs H Q E → sp vs H Q E) : Callee P w K mg base lev f ps b sp' :=
  ⟨F.kp, fun h1 h2 h3 h4 h5 hr tk I r g k q => F.run h1 h2 h3 h4 h5 hr tk I r g k (h _ _ _ _ q)⟩
section
variable (fa : Nat → Option Addr) (K : PySem.W.Frag) (xr : XR)
/-- what a def promises: from the slots of its parameters -/
def spF (c : Cfg) (i np : Nat) : Sp := fun vs H Q E => ∃ F ow ps, ps.length = np ∧ Gst fa K H F ow ps (vs.map some) ∧ match c.cf i ps with
  | .ok d ps' => ∀ v H' F' ow', Evo H F ow H' F' ow' → Sub F' H' → (∀ a j, ow' a = some j → F' a = none ∧ H' a ≠ none) →
      (∀ j v, isMl (gt ps j) = true → vs[j]? = some v → SlotOk fa K H' F' ow' j (gt ps' j) (some v)) → Vd fa K (c.own i) H H' F' ow' d v → Q v H'
  | .ex x ps' => ∀ cls dd H' F' ow', Evo H F ow H' F' ow' → Sub F' H' → (∀ a j, ow' a = some j → F' a = none ∧ H' a ≠ none) →
      (∀ j v, isMl (gt ps j) = true → vs[j]? = some v → SlotOk fa K H' F' ow' j (gt ps' j) (some v)) → xr x cls dd H' F' → E cls dd H'
  | .no => False
end
/-- what the classes have -/
structure ClsOk (P : Program) (w : World) (K : PySem.W.Frag) (mg : Str → Option Value) (base : Heap) (lev : Nat) (fa : Nat → Option Addr) (at_ : Nat → Nat → Option At) (an : Nat → Str) (sp : Nat → Nat → Sp) : Prop where
  cls : ∀ j x t C, at_ j x = some t → fa j = some C → SlX.SCls K C
  fld : ∀ j x k C, at_ j x = some (.fld k) → fa j = some C → ∃ p, SlX.Slot1 K C (an x) p k
  prop : ∀ j x i C, at_ j x = some (.prop i) → fa j = some C → ∃ p g, PropOf K C (an x) p g ∧ ∀ np, FnR P w K mg base (L2.CX P w) lev g (sp i np)
  meth : ∀ j x i C, at_ j x = some (.meth i) → fa j = some C → ∃ g, Meth K C (an x) g ∧ ∀ np, FnR P w K mg base (L2.CX P w) lev g (sp i np)
structure Ctx (lev : Nat) (fa : Nat → Option Addr) (xr : XR) (m : Nm) (c : Cfg) (sc : Scope) (W : WX) (X : Cx) : Prop where
  hN : X.N = m.N
  nd : m.N.Nodup
  calm : X.calm = true
  hr : Room lev X.A
  vis : ∀ x, visC sc x = true → Vis X.env.scope x
  glo : ∀ x, gloC sc x = true → Gl X x
  loc : ∀ x, locC sc x = true → Loc X.env.scope x ∧ (X.fn x = true ∨ X.env.scope.names.lookup x = some .local)
  cf : ∀ x, (sc.names.lookup x = some .cell ∨ sc.names.lookup x = some .free) → (X.env.scope.names.lookup x = some .cell ∨ X.env.scope.names.lookup x = some .free)
  bu : ∀ x, gk m.G x = some .bu → X.mg x = none
  con : ∀ x i, gk m.G x = some (.con i) → ∃ u v d, X.mg x = some u ∧ RelV v u ∧ c.gl i = some d ∧ ∀ F, Rep fa X.K F d v
  fn : ∀ x i, gk m.G x = some (.fn i) → ∃ a, X.mg x = some (.ref a) ∧ fa i = some a
  alt : ∀ i j, m.alt i = some j → fa i = fa j
  ca : ∀ i a, fa i = some a → (m.ps i).Nodup ∧ Callee X.prog X.w X.K X.mg X.base lev a (m.ps i) (m.byN i) (spF fa X.K xr c i (m.np i))
  cl : ClsOk X.prog X.w X.K X.mg X.base lev fa c.at_ m.an fun i np => spF fa X.K xr c i np
  an : m.an 0 = "__len__" ∧ m.an 1 = "__contains__"
  hr1 : Room (lev + 1) X.A
  tk : Takes X W

section
variable {lev : Nat} {fa : Nat → Option Addr} {xr : XR} {m : Nm} {c : Cfg} {sc : Scope} {W : WX} {X : Cx} {e : Expr}
theorem node_of {x : Str} (h : isNode x = true) : (x == ("__debug__" : Str)) = false ∧ (x == ("__classdict__" : Str)) = false ∧ x ≠ "__name__" := by
  unfold isNode at h
  simp only [Bool.and_eq_true, Bool.not_eq_true'] at h
  exact ⟨h.1.1, h.1.2, fun e => by rw [e] at h; simp at h⟩
theorem Ctx.units (C : Ctx lev fa xr m c sc W X) : X.A.units + 70 < cLine := by
  have := C.hr.un
  omega
theorem Ctx.name (C : Ctx lev fa xr m c sc W X) {i : Nat} {x : Str} {pos : Pos} (h : nmC m.N sc i x = true) : PE X (.Name x pos) (tVar i) := by
  unfold nmC at h
  simp only [Bool.and_eq_true, decide_eq_true_eq] at h
  obtain ⟨h1, h2, _⟩ := node_of h.2
  exact pe_var (by rw [C.hN]; exact h.1.1) (C.vis x h.1.2) h1 h2
/-- a slot that is read -/
theorem snd_v (C : Ctx lev fa xr m c sc W X) {i : Nat} {x : Str} {pos : Pos} (h : nmC m.N sc i x = true) : PE X (.Name x pos) (tE fa X.K xr false W (xV c i)) := by
  refine (C.name h).imp fun σ H Q ⟨F, ow, env, s, g⟩ => ?_
  unfold xV at g
  cases q : gt env i with
  | un => rw [q] at g; exact g.elim
  | lk _ => rw [q] at g; exact g.elim
  | ob _ _ => rw [q] at g; exact g.elim
  | val d =>
    rw [q] at g
    obtain ⟨o, h1, v, h2, h3⟩ := s.slot i _ (gt_some q (by simp))
    subst h2
    exact ⟨v, h1, g H F ow .refl s v (Vd.of h3)⟩
  | ml xs =>
    rw [q] at g
    simp only at g
    split at g
    · exact g.elim
    · rw [st_eq] at g
      have hi := gt_some q (by simp)
      obtain ⟨o, h1, a, vs, rfl, h2, h3, h4, h5⟩ := s.slot i _ hi
      obtain ⟨s', ev, r⟩ := s.freeze (d := .lst xs) hi h1 h2 h3 h4 fun hs hg => .lst (.inl hg) (h5.mono hs)
      exact ⟨.ref a, h1, g _ _ _ ev s' _ (Vd.of r)⟩
  | md xs =>
    rw [q] at g
    simp only at g
    split at g
    · exact g.elim
    · rw [st_eq] at g
      have hi := gt_some q (by simp)
      obtain ⟨o, h1, a, vs, rfl, h2, h3, h4, h5⟩ := s.slot i _ hi
      obtain ⟨s', ev, r⟩ := s.freeze (d := .dct xs) hi h1 h2 h3 h4 fun hs hg => .dct hg (h5.mono hs)
      exact ⟨.ref a, h1, g _ _ _ ev s' _ (Vd.of r)⟩
theorem snd_k {d : D} {k : Const} {j pos} (h : conC d k = true) : PE X (.Constant k j pos) (tE fa X.K xr false W (fun e => .ok d e)) := by
  have go : ∀ {v : V}, PE X (.Constant k j pos) (tC v) → (∀ F, Rep fa X.K F d v) → PE X (.Constant k j pos) (tE fa X.K xr false W (fun e => .ok d e)) :=
    fun hp hr => hp.imp fun σ H Q ⟨F, ow, env, s, g⟩ => g H F ow .refl s _ (Vd.of (hr F))
  cases d <;> cases k <;> simp only [conC] at h <;> (try (cases h; done))
  · exact go pe_non fun _ => .non
  · have := eq_of_beq h; subst this; exact go pe_bl fun _ => .bl _
  · have := eq_of_beq h; subst this; exact go pe_int fun _ => .int _
  · simp only [Bool.and_eq_true, decide_eq_true_eq] at h
    obtain ⟨h1, h2⟩ := h
    subst h1
    exact go pe_str fun _ => .str h2
theorem snd_g (C : Ctx lev fa xr m c sc W X) {i : Nat} {x : Str} {pos : Pos} (h : glC m.G sc x (.con i) = true) : PE X (.Name x pos) (tE fa X.K xr false W (xG c i)) := by
  unfold glC at h
  simp only [Bool.and_eq_true, decide_eq_true_eq] at h
  obtain ⟨u, v, d, h1, h2, h3, h4⟩ := C.con x i h.1.2
  refine (pe_glob (C.glo x h.1.1) h1 h2 (node_of h.2).1).imp fun σ H Q ⟨F, ow, env, s, g⟩ => ?_
  unfold xG at g
  rw [h3] at g
  exact g H F ow .refl s _ (Vd.of (h4 F))
/-- two operands, then an operation on data -/
theorem snd_two {a b : CE} {ea eb : Expr} {f : D → D → Option D} {t : TE} (ha : PE X ea (tE fa X.K xr false W a)) (hb : PE X eb (tE fa X.K xr false W b)) (h : PE X e (tOp (rD fa X.K f) (tE fa X.K xr false W a) (tE fa X.K xr false W b))) :
    PE X e (tE fa X.K xr false W fun e => (a e).bind fun x e => (b e).bind fun y e => lift (f x y) e) := by
  refine h.imp fun σ H Q ⟨F, ow, env, s, g⟩ => ⟨F, ow, env, s, ?_⟩
  refine g.bind.mono fun d e1 H1 F1 ow1 ev1 s1 g1 v hv => ⟨F1, ow1, e1, s1, ?_⟩
  refine g1.bind.mono fun d2 e2 H2 F2 ow2 ev2 s2 g2 v2 hv2 => ?_
  obtain ⟨r, er, g2⟩ := g2.lift
  exact ⟨F2, d, d2, r, s2.sub, (hv.rep (fr := false)).mono ev2.mono, hv2.rep (fr := false), er, g2.out s2⟩
theorem snd_bop {a b : CE} {ea eb : Expr} {o : Operator} {pos : Pos} (ha : PE X ea (tE fa X.K xr false W a)) (hb : PE X eb (tE fa X.K xr false W b)) : PE X (.BinOp ea o eb pos) (tE fa X.K xr false W (xBop o a b)) :=
  snd_two (t := tE fa X.K xr false W a) ha hb (pe_op (bop_sound o) ha hb)
theorem nobehind' {o : CmpOp} {eb : Expr} (h : ∀ (es : List Expr) k p, eb ≠ .Set es k p) : behindInMarks o eb = false := by
  cases eb <;> first | rfl | (exfalso; exact h _ _ _ rfl)
theorem snd_cmp (C : Ctx lev fa xr m c sc W X) {a b : CE} {ea eb : Expr} {o : CmpOp} {pos : Pos} (ha : PE X ea (tE fa X.K xr false W a)) (hb : PE X eb (tE fa X.K xr false W b)) (hn : behindInMarks o eb = false) :
    PE X (.Compare ea [o] [eb] pos) (tE fa X.K xr false W (xCmp o a b)) := by
  refine (pe_cmpR (cmp_sound (fa := fa) o C.units) ha hb hn).imp fun σ H Q ⟨F, ow, env, s, g⟩ => ⟨F, ow, env, s, ?_⟩
  refine g.bind.mono fun d e1 H1 F1 ow1 ev1 s1 g1 v hv => ⟨F1, ow1, e1, s1, ?_⟩
  refine g1.bind.mono fun d2 e2 H2 F2 ow2 ev2 s2 g2 v2 hv2 => ?_
  obtain ⟨r, er, g2⟩ := g2.lift
  cases q : cmpD o d d2 with
  | none => rw [q] at er; cases er
  | some r' =>
    rw [q] at er
    cases er
    exact ⟨F2, d, d2, r', s2.sub, (hv.rep (fr := false)).mono ev2.mono, hv2.rep (fr := false), q, (g2.out s2).same s2.sub (.bl _)⟩
theorem snd_neg {a : CE} {ea : Expr} {pos : Pos} (ha : PE X ea (tE fa X.K xr false W a)) : PE X (.UnaryOp .USub ea pos) (tE fa X.K xr false W (xNeg a)) := by
  refine (pe_un un_neg ha).imp fun σ H Q ⟨F, ow, env, s, g⟩ => ⟨F, ow, env, s, ?_⟩
  refine g.bind.mono fun d e1 H1 F1 ow1 ev1 s1 g1 v hv => ?_
  have hv := hv.rep (fr := false)
  cases hv with
  | int i => exact ⟨i, rfl, (Good.out g1 s1).same s1.sub (.int _)⟩
  | _ => exact g1.elim
theorem snd_not {a : CE} {ea : Expr} {pos : Pos} (ha : PE X ea (tE fa X.K xr false W a)) : PE X (.UnaryOp .Not ea pos) (tE fa X.K xr false W (xNot a)) := by
  refine (pe_notT ha).imp fun σ H Q ⟨F, ow, env, s, g⟩ => ⟨F, ow, env, s, ?_⟩
  refine g.bind.mono fun d e1 H1 F1 ow1 ev1 s1 g1 v hv => ?_
  obtain ⟨r, er, g1⟩ := g1.lift
  cases q : tru d with
  | none => rw [q] at er; cases er
  | some k =>
    rw [q] at er
    cases er
    exact ⟨k, tru_sound s1.sub (hv.rep (fr := false)) q, (Good.out g1 s1).same s1.sub (.bl _)⟩
theorem snd_sub (C : Ctx lev fa xr m c sc W X) {a b : CE} {ea eb : Expr} {pos : Pos} (ha : PE X ea (tE fa X.K xr false W a)) (hb : PE X eb (tE fa X.K xr false W b)) (hn : PlainIx eb) : PE X (.Subscript ea eb pos) (tE fa X.K xr false W (xSub a b)) :=
  snd_two (t := tE fa X.K xr false W a) ha hb (pe_ix (sub_sound C.units) ha hb hn)
end
end Mi
end
section
/-! the words are sound: lists of expressions, displays, calls of built-ins, tests -/
namespace Mi
open PySem L2 PySem.Spec
section
variable {lev : Nat} {fa : Nat → Option Addr} {xr : XR} {m : Nm} {c : Cfg} {sc : Scope} {W : WX} {X : Cx} {e : Expr}
theorem snd_nil : PA X [] (tA fa X.K xr W (esC [])) := by
  refine pa_nil.imp fun σ H Q ⟨F, ow, env, s, g⟩ => ?_
  exact g H F ow .refl s [] .nil
theorem snd_cons {a : M} {f : CE} {l : CL} {ea : Expr} {es : List Expr} (ha : PE X ea (tE fa X.K xr false W f)) (hr : PA X es (tA fa X.K xr W (esC l))) (hs : starEach (ea :: es) X.env = (false, eval ea X.env) :: starEach es X.env) :
    PA X (ea :: es) (tA fa X.K xr W (esC ((false, a, f) :: l))) := by
  refine (pa_cons ha hr hs).imp fun σ H Q ⟨F, ow, env, s, g⟩ => ⟨F, ow, env, s, ?_⟩
  have g : Good fa X.K xr W σ H F ow ((f env).bind fun d e => (esC l e).bind fun ds e => .ok (d :: ds) e) _ := g
  refine g.bind.mono fun d e1 H1 F1 ow1 ev1 s1 g1 v hv => ⟨F1, ow1, e1, s1, ?_⟩
  refine g1.bind.mono fun ds e2 H2 F2 ow2 ev2 s2 g2 vs hvs => ?_
  exact g2 H2 F2 ow2 .refl s2 (v :: vs) (.cons ((hv.rep (fr := false)).mono ev2.mono) hvs)
theorem snd_star {a : M} {f : CE} {l : CL} {ea : Expr} {es : List Expr} {p : Pos} (ha : PE X ea (tE fa X.K xr false W f)) (hr : PA X es (tA fa X.K xr W (esC l))) :
    PA X (.Starred ea p :: es) (tA fa X.K xr W (esC ((true, a, f) :: l))) := by
  refine (StX.pa_star ha hr).imp fun σ H Q ⟨F, ow, env, s, g⟩ => ⟨F, ow, env, s, ?_⟩
  have g : Good fa X.K xr W σ H F ow ((f env).bind fun d e => match seqD d with | some xs => (esC l e).bind fun ds e => .ok (xs ++ ds) e | none => .no) _ := g
  refine g.bind.mono fun d e1 H1 F1 ow1 ev1 s1 g1 v hv => ?_
  cases q : seqD d with
  | none => rw [q] at g1; exact g1.elim
  | some xs =>
    rw [q] at g1
    obtain ⟨p, ws, rfl, hp, hw⟩ := seqD_rep s1.sub (hv.rep (fr := false)) q
    refine ⟨p, ws, rfl, hp.symm, F1, ow1, e1, s1, ?_⟩
    refine (Good.bind g1).mono fun ds e2 H2 F2 ow2 ev2 s2 g2 vs hvs => ?_
    exact g2 H2 F2 ow2 .refl s2 _ ((hw.mono ev2.mono).append hvs)
theorem snd_tup {l : CL} {es : List Expr} {k pos} (ha : PA X es (tA fa X.K xr W (esC l))) : PE X (.Tuple es k pos) (tE fa X.K xr false W (xTup l)) := by
  refine (pe_tup ha).imp fun σ H Q ⟨F, ow, env, s, g⟩ => ⟨F, ow, env, s, ?_⟩
  refine g.bind.mono fun ds e1 H1 F1 ow1 ev1 s1 g1 vs hvs => ?_
  split at g1
  · rename_i hz
    exact ⟨by rw [← hvs.length]; exact hz, fun p hp => (Good.out g1 s1).tup s1.sub hp hvs⟩
  · exact g1.elim
theorem snd_lst {l : CL} {es : List Expr} {pos} (ha : PA X es (tA fa X.K xr W (esC l))) : PE X (.List es pos) (tE fa X.K xr true W (xLst l)) := by
  refine (pe_lst ha).imp fun σ H Q ⟨F, ow, env, s, g⟩ => ⟨F, ow, env, s, ?_⟩
  refine g.bind.mono fun ds e1 H1 F1 ow1 ev1 s1 g1 vs hvs => ?_
  split at g1
  · rename_i hz
    refine ⟨by rw [← hvs.length]; exact hz, fun p hp => ?_⟩
    exact Good.pst g1 s1 ev1.dom (fun _ kvs z => by cases z) p vs hp hvs
  · exact g1.elim
theorem bi_val (b : Bi) : (∃ n, biV b = .builtin n ∧ bootBuiltins (biN b) = some (.builtin n)) ∨ (∃ n, biV b = .type n ∧ bootBuiltins (biN b) = some (.type n)) := by
  cases b <;> first | exact .inl ⟨_, rfl, by decide +kernel⟩ | exact .inr ⟨_, rfl, by decide +kernel⟩
theorem biFr_dct {b : Bi} {ds : List D} {kvs : List (Key × D)} (h : biFr b = true) (e : biD b ds = some (.dct kvs)) : False := by
  cases b <;> simp only [biFr] at h <;> first | (cases h; done) | skip
  all_goals
    unfold biD at e
    split at e <;> first | (cases e; done) | (simp at e; done) | skip
  all_goals
    (try split at e) <;> first | (cases e; done) | (simp at e; done) | skip
  all_goals (try split at e) <;> first | (cases e; done) | (simp at e; done)
theorem snd_bi (C : Ctx lev fa xr m c sc W X) {b : Bi} {l : CL} {x : Str} {e1 : Expr} {es : List Expr} {p pos} (hx : x = biN b) (hg : glC m.G sc x .bu = true) (ha : PA X (e1 :: es) (tA fa X.K xr W (esC l)))
    (he : starEach (e1 :: es) X.env = (false, eval e1 X.env) :: starEach es X.env) (hpl : (backTo pos (starEach es X.env)).any (·.1) = false) : PE X (.Call (.Name x p) (e1 :: es) [] pos) (tE fa X.K xr (biFr b) W (xBi b l)) := by
  unfold glC at hg
  simp only [Bool.and_eq_true, decide_eq_true_eq] at hg
  obtain ⟨⟨g1, g2⟩, g3⟩ := hg
  obtain ⟨n1, _, n3⟩ := node_of g3
  subst hx
  have key : PE X (.Call (.Name (biN b) p) (e1 :: es) [] pos) (tCB (rBi fa X.K b) (tA fa X.K xr W (esC l))) := by
    have hs := bi_sound (fa := fa) C.calm C.units b
    rcases bi_val b with ⟨n, h1, h2⟩ | ⟨n, h1, h2⟩
    · rw [h1] at hs
      exact pe_callB hs (C.glo _ g1) (C.bu _ g2) h2 ha n3 n1 he hpl
    · rw [h1] at hs
      exact pe_callTy hs (C.glo _ g1) (C.bu _ g2) h2 ha n3 n1 he hpl
  refine key.imp fun σ H Q ⟨F, ow, env, s, g⟩ => ⟨F, ow, env, s, ?_⟩
  refine g.bind.mono fun ds e1 H1 F1 ow1 ev1 s1 g1 vs hvs => ?_
  obtain ⟨d, ed, g1⟩ := g1.lift
  exact ⟨F1, ds, d, s1.sub, hvs, ed, Good.pst g1 s1 ev1.dom fun hb kvs z => biFr_dct hb (z ▸ ed)⟩
/-- tests -/
theorem pt_plain {a : CE} {ea : Expr} (h : PE X ea (tE fa X.K xr false W a)) (he : ∀ whole, isTrue ea X.env whole = (do let v ← whole; standAt ea.pos; holding [v] (truthy v))) :
    PT X ea (tT fa X.K xr W fun e => (a e).bind fun d e => lift (tru d) e) := by
  refine (pt_truth h he).imp fun σ H Q ⟨F, ow, env, s, g⟩ => ⟨F, ow, env, s, ?_⟩
  refine g.bind.mono fun d e1 H1 F1 ow1 ev1 s1 g1 v hv => ?_
  obtain ⟨k, ek, g1⟩ := g1.lift
  exact ⟨k, tru_sound s1.sub (hv.rep (fr := false)) ek, g1.ok s1⟩
end
end Mi
end
section
/-! tests; and, or; if else; chains; slices; methods -/
namespace Mi
open PySem L2 PySem.Spec
theorem R.bind_assoc {α β γ : Type} (r : R α) (f : α → En → R β) (g : β → En → R γ) : (r.bind f).bind g = r.bind fun a e => (f a e).bind g := by cases r <;> rfl
theorem lift_bind {α β : Type} (o : Option α) (e : En) (f : α → En → R β) : (lift o e).bind f = match o with | some a => f a e | none => .no := by cases o <;> rfl
/-- an expression as a test -/
def tru' (a : CE) : En → R Bool := fun e => (a e).bind fun d e => lift (tru d) e
section
variable {lev : Nat} {fa : Nat → Option Addr} {xr : XR} {m : Nm} {c : Cfg} {sc : Scope} {W : WX} {X : Cx} {e : Expr}
theorem xBool_one {and : Bool} {s : Bool} {a : M} {f : CE} : xBool and [(s, a, f)] = f := rfl
theorem xBool_more {and : Bool} {s : Bool} {a : M} {f : CE} {y : Bool × M × CE} {r : CL} {env : En} : xBool and ((s, a, f) :: y :: r) env = (f env).bind fun d e => (lift (tru d) e).bind fun t e => if t = and then xBool and (y :: r) e else .ok d e := rfl
theorem snd_bool1 {fr : Bool} {and : Bool} {s : Bool} {a : M} {f : CE} {ea : Expr} {op : BoolOp} {pos : Pos} (h : PE X ea (tE fa X.K xr fr W f)) : PE X (.BoolOp op [ea] pos) (tE fa X.K xr fr W (xBool and [(s, a, f)])) := pe_one h
theorem Vd.from {fr : Bool} {K : PySem.W.Frag} {H0 H H' F' : Hp} {ow' : Ow} {d : Mi.D} {v : V} (h : Vd fa K fr H H' F' ow' d v) (hn : ∀ q, H q = none → H0 q = none) : Vd fa K fr H0 H' F' ow' d v := by
  cases fr with
  | false => exact Vd.of (h.rep (fr := false))
  | true =>
    cases d with
    | lst ds =>
      obtain ⟨q, us, rfl, h1, h2, h3, h4, h5⟩ := h
      exact ⟨q, us, rfl, hn q h1, h2, h3, h4, h5⟩
    | dct ds =>
      obtain ⟨q, us, rfl, h1, h2, h3, h4, h5⟩ := h
      exact ⟨q, us, rfl, hn q h1, h2, h3, h4, h5⟩
    | _ => exact h
/-- a value, new or not, stands for its data in some frozen part -/
theorem Vd.some {fr : Bool} {K : PySem.W.Frag} {H0 H' F' : Hp} {ow' : Ow} {d : Mi.D} {v : V} (h : Vd fa K fr H0 H' F' ow' d v) (sb : Sub F' H') : ∃ G, Sub G H' ∧ Rep fa K G d v := by
  cases fr with
  | false => exact ⟨F', sb, h.rep (fr := false)⟩
  | true =>
    cases d with
    | lst ds =>
      obtain ⟨q, us, rfl, h1, h2, h3, h4, h5⟩ := h
      have mono : Sub F' (upd F' q (.lst us)) := Sub.new Sub.refl h3
      refine ⟨upd F' q (.lst us), fun b u z => ?_, .lst (.inl upd_same) (h5.mono mono)⟩
      by_cases hb : b = q
      · subst hb; rw [upd_same] at z; cases z; exact h2
      · rw [upd_ne hb] at z; exact sb b u z
    | dct ds =>
      obtain ⟨q, us, rfl, h1, h2, h3, h4, h5⟩ := h
      have mono : Sub F' (upd F' q (.dK us)) := Sub.new Sub.refl h3
      refine ⟨upd F' q (.dK us), fun b u z => ?_, .dct upd_same (h5.mono mono)⟩
      by_cases hb : b = q
      · subst hb; rw [upd_same] at z; cases z; exact h2
      · rw [upd_ne hb] at z; exact sb b u z
    | _ => exact ⟨F', sb, h⟩
theorem snd_boolN {fr : Bool} {and : Bool} {s : Bool} {a : M} {f : CE} {ea eb : Expr} {y : Bool × M × CE} {r : CL} {es : List Expr} {pos : Pos} (h : PE X ea (tE fa X.K xr fr W f)) (hr : PE X (.BoolOp (if and then .And else .Or) (eb :: es) pos) (tE fa X.K xr fr W (xBool and (y :: r)))) :
    PE X (.BoolOp (if and then .And else .Or) (ea :: eb :: es) pos) (tE fa X.K xr fr W (xBool and ((s, a, f) :: y :: r))) := by
  cases and with
  | true =>
    refine (pe_andT h hr).imp fun σ H Q ⟨F, ow, env, s, g⟩ => ⟨F, ow, env, s, ?_⟩
    rw [xBool_more] at g
    refine g.bind.mono fun d e1 H1 F1 ow1 ev1 s1 g1 v hv => ?_
    obtain ⟨G, hG, rv⟩ := hv.some s1.sub
    rw [lift_bind] at g1
    cases q : tru d with
    | none => rw [q] at g1; exact g1.elim
    | some k =>
      rw [q] at g1
      refine ⟨k, tru_sound hG rv q, ?_⟩
      cases k with
      | true => exact ⟨F1, ow1, e1, s1, Good.mono g1 fun _ _ _ _ _ _ _ q v hv => q v (hv.from fun z z1 => Classical.byContradiction fun w => ev1.dom z w z1)⟩
      | false => exact Good.ok (e := e1) g1 s1 v hv
  | false =>
    refine (pe_orT h hr).imp fun σ H Q ⟨F, ow, env, s, g⟩ => ⟨F, ow, env, s, ?_⟩
    rw [xBool_more] at g
    refine g.bind.mono fun d e1 H1 F1 ow1 ev1 s1 g1 v hv => ?_
    obtain ⟨G, hG, rv⟩ := hv.some s1.sub
    rw [lift_bind] at g1
    cases q : tru d with
    | none => rw [q] at g1; exact g1.elim
    | some k =>
      rw [q] at g1
      refine ⟨k, tru_sound hG rv q, ?_⟩
      cases k with
      | true => exact Good.ok (e := e1) g1 s1 v hv
      | false => exact ⟨F1, ow1, e1, s1, Good.mono g1 fun _ _ _ _ _ _ _ q v hv => q v (hv.from fun z z1 => Classical.byContradiction fun w => ev1.dom z w z1)⟩
theorem snt_bool1 {and : Bool} {s : Bool} {a : M} {f : CE} {ea : Expr} {pos : Pos} (h : PT X ea (tT fa X.K xr W (tru' f))) : PW X (.BoolOp (if and then .And else .Or) [ea] pos) (tT fa X.K xr W (tru' (xBool and [(s, a, f)]))) := by
  cases and with
  | true => exact pw_and1 h
  | false => exact pw_or1 h
theorem snt_boolN {and : Bool} {s : Bool} {a : M} {f : CE} {ea eb : Expr} {y : Bool × M × CE} {r : CL} {es : List Expr} {pos : Pos} (h : PT X ea (tT fa X.K xr W (tru' f))) (hr : PW X (.BoolOp (if and then .And else .Or) (eb :: es) pos) (tT fa X.K xr W (tru' (xBool and (y :: r))))) :
    PW X (.BoolOp (if and then .And else .Or) (ea :: eb :: es) pos) (tT fa X.K xr W (tru' (xBool and ((s, a, f) :: y :: r)))) := by
  have wimp : ∀ {t t' : TT} {e : Expr}, PW X e t → (∀ σ H Q, t' σ H Q → t σ H Q) → PW X e t' := fun h i => ⟨fun wh pins s σ H Q I q => h.run wh pins s σ H Q I (i σ H Q q)⟩
  have eqv : ∀ env, tru' (xBool and ((s, a, f) :: y :: r)) env = (tru' f env).bind fun t e => if t = and then tru' (xBool and (y :: r)) e else .ok t e := fun env => by
    unfold tru'
    rw [xBool_more, R.bind_assoc, R.bind_assoc]
    congr 1
    funext d e
    rw [R.bind_assoc, lift_bind, lift_bind]
    cases q : tru d with
    | none => rfl
    | some k =>
      show (if k = and then _ else _ : R D).bind _ = (if k = and then _ else _ : R Bool)
      by_cases hk : k = and
      · rw [if_pos hk, if_pos hk]
      · rw [if_neg hk, if_neg hk]
        show lift (tru d) e = _
        rw [q]; rfl
  cases and with
  | true =>
    refine wimp (pw_and h hr) fun σ H Q ⟨F, ow, env, s, g⟩ => ⟨F, ow, env, s, ?_⟩
    rw [eqv] at g
    refine g.bind.mono fun t e1 H1 F1 ow1 ev1 s1 g1 => ?_
    cases t with
    | true => exact ⟨F1, ow1, e1, s1, g1⟩
    | false => exact g1.ok s1
  | false =>
    refine wimp (pw_or h hr) fun σ H Q ⟨F, ow, env, s, g⟩ => ⟨F, ow, env, s, ?_⟩
    rw [eqv] at g
    refine g.bind.mono fun t e1 H1 F1 ow1 ev1 s1 g1 => ?_
    cases t with
    | true => exact g1.ok s1
    | false => exact ⟨F1, ow1, e1, s1, g1⟩
theorem snt_not {a : CE} {ea : Expr} {pos : Pos} (h : PT X ea (tT fa X.K xr W (tru' a))) : PT X (.UnaryOp .Not ea pos) (tT fa X.K xr W (tru' (xNot a))) := by
  refine (pt_not h).imp fun σ H Q ⟨F, ow, env, s, g⟩ => ⟨F, ow, env, s, ?_⟩
  have eqv : tru' (xNot a) env = (tru' a env).bind fun t e => .ok (!t) e := by
    unfold tru' xNot
    rw [R.bind_assoc, R.bind_assoc]
    congr 1
    funext d e
    rw [lift_bind, lift_bind]
    cases tru d <;> rfl
  rw [eqv] at g
  exact g.bind.mono fun t e1 H1 F1 ow1 ev1 s1 g1 => g1.ok s1
theorem xCmp_tru {o : CmpOp} {a b : CE} (env : En) : tru' (xCmp o a b) env = (a env).bind fun x e => (b e).bind fun y e => lift (cmpD o x y) e := by
  unfold tru' xCmp
  rw [R.bind_assoc]
  congr 1
  funext d e
  rw [R.bind_assoc]
  congr 1
  funext d2 e
  rw [lift_bind]
  cases cmpD o d d2 <;> rfl
theorem snt_cmp (C : Ctx lev fa xr m c sc W X) {a b : CE} {ea eb : Expr} {o : CmpOp} {pos : Pos} (ha : PE X ea (tE fa X.K xr false W a)) (hb : PE X eb (tE fa X.K xr false W b)) (hn : behindInMarks o eb = false) :
    PT X (.Compare ea [o] [eb] pos) (tT fa X.K xr W (tru' (xCmp o a b))) := by
  refine (pt_cmpR (cmp_sound (fa := fa) o C.units) ha hb hn).imp fun σ H Q ⟨F, ow, env, s, g⟩ => ⟨F, ow, env, s, ?_⟩
  rw [xCmp_tru] at g
  refine g.bind.mono fun d e1 H1 F1 ow1 ev1 s1 g1 v hv => ⟨F1, ow1, e1, s1, ?_⟩
  refine g1.bind.mono fun d2 e2 H2 F2 ow2 ev2 s2 g2 v2 hv2 => ?_
  obtain ⟨r, er, g2⟩ := g2.lift
  exact ⟨F2, d, d2, r, s2.sub, (hv.rep (fr := false)).mono ev2.mono, hv2.rep (fr := false), er, r, rfl, g2.ok s2⟩
theorem snd_cmp2 (C : Ctx lev fa xr m c sc W X) {a b z : CE} {ea eb ez : Expr} {o p : CmpOp} {pos : Pos} (ha : PE X ea (tE fa X.K xr false W a)) (hb : PE X eb (tE fa X.K xr false W b)) (hz : PE X ez (tE fa X.K xr false W z)) (hn : lastMarks [o, p] [eb, ez] = false) :
    PE X (.Compare ea [o, p] [eb, ez] pos) (tE fa X.K xr false W (xCmp2 o p a b z)) := by
  refine (pe_chain (cmp_sound (fa := fa) o C.units) (cmp_sound (fa := fa) p C.units) ha hb hz hn).imp fun σ H Q ⟨F, ow, env, s, g⟩ => ⟨F, ow, env, s, ?_⟩
  refine g.bind.mono fun d e1 H1 F1 ow1 ev1 s1 g1 v hv => ⟨F1, ow1, e1, s1, ?_⟩
  refine g1.bind.mono fun d2 e2 H2 F2 ow2 ev2 s2 g2 v2 hv2 => ?_
  have hv := (hv.rep (fr := false)).mono ev2.mono
  have hv2 := hv2.rep (fr := false)
  rw [lift_bind] at g2
  cases q : cmpD o d d2 with
  | none => rw [q] at g2; exact g2.elim
  | some r =>
    rw [q] at g2
    refine ⟨F2, d, d2, r, s2.sub, hv, hv2, q, r, rfl, ?_⟩
    cases r with
    | false => exact (Good.out g2 s2).same s2.sub (.bl _)
    | true =>
      refine ⟨F2, ow2, e2, s2, ?_⟩
      refine (Good.bind g2).mono fun d3 e3 H3 F3 ow3 ev3 s3 g3 v3 hv3 => ?_
      obtain ⟨r, er, g3⟩ := g3.lift
      cases q : cmpD p d2 d3 with
      | none => rw [q] at er; cases er
      | some r' =>
        rw [q] at er
        cases er
        exact ⟨F3, d2, d3, r', s3.sub, hv2.mono ev3.mono, hv3.rep (fr := false), q, (Good.out g3 s3).same s3.sub (.bl _)⟩
theorem snt_cmp2 (C : Ctx lev fa xr m c sc W X) {a b z : CE} {ea eb ez : Expr} {o p : CmpOp} {pos : Pos} (ha : PE X ea (tE fa X.K xr false W a)) (hb : PE X eb (tE fa X.K xr false W b)) (hz : PE X ez (tE fa X.K xr false W z)) (hn : lastMarks [o, p] [eb, ez] = false) :
    PT X (.Compare ea [o, p] [eb, ez] pos) (tT fa X.K xr W (tru' (xCmp2 o p a b z))) := by
  refine (pt_chain (cmp_sound (fa := fa) o C.units) (cmp_sound (fa := fa) p C.units) ha hb hz hn).imp fun σ H Q ⟨F, ow, env, s, g⟩ => ⟨F, ow, env, s, ?_⟩
  have g := (Good.bind (r := xCmp2 o p a b z env) g)
  unfold xCmp2 at g
  refine g.bind.mono fun d e1 H1 F1 ow1 ev1 s1 g1 v hv => ⟨F1, ow1, e1, s1, ?_⟩
  refine g1.bind.mono fun d2 e2 H2 F2 ow2 ev2 s2 g2 v2 hv2 => ?_
  have hv := (hv.rep (fr := false)).mono ev2.mono
  have hv2 := hv2.rep (fr := false)
  rw [lift_bind] at g2
  cases q : cmpD o d d2 with
  | none => rw [q] at g2; exact g2.elim
  | some r =>
    rw [q] at g2
    refine ⟨F2, d, d2, r, s2.sub, hv, hv2, q, r, rfl, ?_⟩
    cases r with
    | false => exact (show ∃ k, V.bl false = V.bl k ∧ Q k H2 from ⟨false, rfl, Good.ok (a := false) (e := e2) (Good.ok (a := D.bl false) (e := e2) g2 s2) s2⟩)
    | true =>
      refine ⟨F2, ow2, e2, s2, ?_⟩
      refine (Good.bind g2).mono fun d3 e3 H3 F3 ow3 ev3 s3 g3 v3 hv3 => ?_
      obtain ⟨r, er, g3⟩ := g3.lift
      cases q : cmpD p d2 d3 with
      | none => rw [q] at er; cases er
      | some r' =>
        rw [q] at er
        cases er
        exact ⟨F3, d2, d3, r', s3.sub, hv2.mono ev3.mono, hv3.rep (fr := false), q, r', rfl, Good.ok (a := r') (e := e3) (Good.ok (a := D.bl r') (e := e3) g3 s3) s3⟩
theorem xIte_eq {t a b : CE} (env : En) : xIte t a b env = (tru' t env).bind fun k e => if k then a e else b e := by
  unfold xIte tru'
  rw [R.bind_assoc]
theorem snd_ite {t a b : CE} {et ea eb : Expr} {pos : Pos} (ht : PT X et (tT fa X.K xr W (tru' t))) (ha : PE X ea (tE fa X.K xr false W a)) (hb : PE X eb (tE fa X.K xr false W b)) : PE X (.IfExp et ea eb pos) (tE fa X.K xr false W (xIte t a b)) := by
  refine (pe_ifExp ht ha hb).imp fun σ H Q ⟨F, ow, env, s, g⟩ => ⟨F, ow, env, s, ?_⟩
  rw [xIte_eq] at g
  refine g.bind.mono fun k e1 H1 F1 ow1 ev1 s1 g1 => ?_
  have g1 := g1.mono (Q' := fun d _ H' F' ow' => ∀ v, Vd fa X.K false H1 H' F' ow' d v → Q v H') fun _ _ _ _ _ _ _ q v hv => q v (Vd.of (hv.rep (fr := false)))
  cases k with
  | true => exact ⟨F1, ow1, e1, s1, g1⟩
  | false => exact ⟨F1, ow1, e1, s1, g1⟩
theorem snt_ite {t a b : CE} {et ea eb : Expr} {pos : Pos} (ht : PT X et (tT fa X.K xr W (tru' t))) (ha : PT X ea (tT fa X.K xr W (tru' a))) (hb : PT X eb (tT fa X.K xr W (tru' b))) : PT X (.IfExp et ea eb pos) (tT fa X.K xr W (tru' (xIte t a b))) := by
  refine ⟨fun pins s σ H Q I ⟨F, ow, env, gs, g⟩ => ?_⟩
  have eqv : tru' (xIte t a b) env = (tru' t env).bind fun k e => if k then tru' a e else tru' b e := by
    show (xIte t a b env).bind _ = _
    rw [xIte_eq, R.bind_assoc]
    congr 1
    funext k e
    cases k <;> rfl
  rw [eqv] at g
  refine PyProof.Rows.isTrue_IfExp (thn (ht.run pins s σ H (fun k H1 => if k = true then tT fa X.K xr W (tru' a) σ H1 Q else tT fa X.K xr W (tru' b) σ H1 Q) I ⟨F, ow, env, gs, ?_⟩) fun k s1 ⟨H1, I1, q1⟩ => ?_)
  · refine g.bind.mono fun k e1 H1 F1 ow1 ev1 s1 g1 => ?_
    cases k with
    | true => exact ⟨F1, ow1, e1, s1, g1⟩
    | false => exact ⟨F1, ow1, e1, s1, g1⟩
  · cases k with
    | true => exact ha.run pins s1 σ H1 Q I1 q1
    | false => exact hb.run pins s1 σ H1 Q I1 q1

/-- slices -/
def tO (fa : Nat → Option Addr) (K : PySem.W.Frag) (xr : XR) (W : WX) (ce : En → R (Option Int)) : TO := fun σ H Q => ∃ F ow e, Gst fa K H F ow e σ ∧ Good fa K xr W σ H F ow (ce e) fun d _ H' _ _ => Q d H'
theorem po_imp {X : Cx} {e : Option Expr} {t t' : TO} (h : PO X e t) (i : ∀ σ H Q, t' σ H Q → t σ H Q) : PO X e t' := ⟨fun pins s σ H Q I q => h.run pins s σ H Q I (i σ H Q q)⟩
theorem snd_part0 : PO X none (tO fa X.K xr W (partsE [])) := by
  refine po_imp po_none fun σ H Q ⟨F, ow, env, s, g⟩ => ?_
  exact Good.ok (a := none) (e := env) g s
theorem snd_part1 {s : Bool} {a : M} {f : CE} {ea : Expr} (h : PE X ea (tE fa X.K xr false W f)) (hs : s = false) : PO X (some ea) (tO fa X.K xr W (partsE [(s, a, f)])) := by
  subst hs
  refine po_imp (po_some h) fun σ H Q ⟨F, ow, env, s, g⟩ => ⟨F, ow, env, s, ?_⟩
  have eqv : partsE [(false, a, f)] env = (f env).bind fun d e => lift (argI [d]) e := by
    show ((f env).bind fun d e => (R.ok [] e).bind fun ds e => .ok (d :: ds) e).bind _ = _
    rw [R.bind_assoc]
    rfl
  rw [eqv] at g
  refine g.bind.mono fun d e1 H1 F1 ow1 ev1 s1 g1 v hv => ?_
  obtain ⟨o, eo, g1⟩ := g1.lift
  have hv := hv.rep (fr := false)
  cases hv with
  | int i => cases eo; exact ⟨i, rfl, g1.ok s1⟩
  | _ => cases eo
theorem snd_sl {o : CE} {lo hi : CL} {eo : Expr} {l h : Option Expr} {p2 pos} (ho : PE X eo (tE fa X.K xr false W o)) (hl : PO X l (tO fa X.K xr W (partsE lo))) (hh : PO X h (tO fa X.K xr W (partsE hi))) : PE X (.Subscript eo (.Slice l h none p2) pos) (tE fa X.K xr false W (xSl o lo hi)) := by
  refine (pe_slice (sl_sound (fa := fa)) ho hl hh).imp fun σ H Q ⟨F, ow, env, s, g⟩ => ⟨F, ow, env, s, ?_⟩
  refine g.bind.mono fun d e1 H1 F1 ow1 ev1 s1 g1 v hv => ⟨F1, ow1, e1, s1, ?_⟩
  refine g1.bind.mono fun l e2 H2 F2 ow2 ev2 s2 g2 => ⟨F2, ow2, e2, s2, ?_⟩
  refine g2.bind.mono fun h e3 H3 F3 ow3 ev3 s3 g3 => ?_
  obtain ⟨r, er, g3⟩ := g3.lift
  exact ⟨F3, d, r, s3.sub, ((hv.rep (fr := false)).mono ev2.mono).mono ev3.mono, er, g3.out s3⟩
/-- a method of a built-in type -/
def mtTy : Mt → String | .join => "str" | .split => "str" | .index => "list"
theorem snd_mt (C : Ctx lev fa xr m c sc W X) {b : Mt} {o : CE} {l : CL} {eo : Expr} {e1 : Expr} {es : List Expr} {apos cpos} (ho : PE X eo (tE fa X.K xr false W o)) (ha : PA X (e1 :: es) (tA fa X.K xr W (esC l)))
    (hbase : attributeBase eo (mtN b) X.env (eval eo X.env) = eval eo X.env)
    (hfew : ((backTo cpos (starEach (e1 :: es) X.env)).all (fun x => !x.1) && (backToKw cpos (keywordEach [] X.env)).all (fun x => x.1.isSome)
      && decide ((e1 :: es).length + ([] : List Keyword).length + (if ([] : List Keyword).isEmpty then 0 else 1) < 30)) = true)
    (hline : (apos.endLine == cpos.line) = true) (hs : starEach (e1 :: es) X.env = (false, eval e1 X.env) :: starEach es X.env) (hplain : (backTo cpos (starEach es X.env)).any (·.1) = false) :
    PE X (.Call (.Attribute eo (mtN b) apos) (e1 :: es) [] cpos) (tE fa X.K xr false W (xMt b o l)) := by
  have key : PE X (.Call (.Attribute eo (mtN b) apos) (e1 :: es) [] cpos) (tBM X.K (mtTy b) (rMt fa X.K b) (tE fa X.K xr false W o) (tA fa X.K xr W (esC l))) := by
    have hm := mt_sound (fa := fa) C.units b
    cases b with
    | join => exact pe_bm PySem.F.plainAttrs_str PySem.F.slot_str_join PySem.F.type_str_join hm ho ha hbase hfew hline hs hplain
    | split => exact pe_bm PySem.F.plainAttrs_str PySem.F.slot_str_split PySem.F.type_str_split hm ho ha hbase hfew hline hs hplain
    | index => exact pe_bm PySem.F.plainAttrs_list PySem.F.slot_list_index PySem.F.type_list_index hm ho ha hbase hfew hline hs hplain
  refine key.imp fun σ H Q ⟨F, ow, env, s, g⟩ => ⟨F, ow, env, s, ?_⟩
  refine g.bind.mono fun d e1 H1 F1 ow1 ev1 s1 g1 v hv => ?_
  have hv := hv.rep (fr := false)
  split at g1
  · rename_i hk
    refine ⟨?_, F1, ow1, e1, s1, ?_⟩
    · cases hv <;> cases b <;> (try (simp [mtOk] at hk; done))
      · rfl
      · rfl
      · exact .inl ⟨rfl, _, rd_of s1.sub (by assumption)⟩
    · refine (Good.bind g1).mono fun ds e2 H2 F2 ow2 ev2 s2 g2 vs hvs => ?_
      obtain ⟨r, er, g2⟩ := g2.lift
      exact ⟨F2, d, ds, r, s2.sub, hv.mono ev2.mono, hvs, er, g2.out s2⟩
  · exact g1.elim
end
end Mi
end
section
/-! lists of the def's own: read, popped; isinstance -/
namespace Mi
open PySem L2 PySem.Spec
section
variable {fa : Nat → Option Addr} {K : PySem.W.Frag} {H F : Hp} {ow : Ow} {e : En} {σ : St}
/-- a list of the def's own is changed -/
theorem Gst.write {i : Nat} {a : Addr} {p q : P} {o : HO} (s : Gst fa K H F ow e σ) (h1 : e[i]? = some p) (hσ : σ[i]? = some (some (.ref a))) (hown : ow a = some (true, i)) (hF : F a = none)
    (hq : SlotOk fa K (upd H a o) F ow i q (some (.ref a))) : Gst fa K (upd H a o) F ow (e.set i q) σ ∧ Evo H F ow (upd H a o) F ow := by
  refine ⟨⟨fun b u h => ?_, fun b j h => ?_, by rw [List.length_set, s.len], fun j r h => ?_⟩, ⟨Sub.refl, fun b u h hm => ?_, fun b h => ?_, fun _ h => .inl h, fun _ h => .inl h, fun _ h => .inl h⟩⟩
  · have hb : b ≠ a := fun z => by subst z; rw [hF] at h; cases h
    rw [upd_ne hb]; exact s.sub b u h
  · obtain ⟨g1, g2⟩ := s.own b j h
    refine ⟨g1, ?_⟩
    by_cases hb : b = a
    · subst hb; rw [upd_same]; simp
    · rw [upd_ne hb]; exact g2
  · by_cases hj : i = j
    · subst hj
      have hl : i < e.length := (List.getElem?_eq_some_iff.mp h1).1
      rw [List.getElem?_set_self hl] at h
      cases h
      exact ⟨_, hσ, hq⟩
    · rw [List.getElem?_set_ne hj] at h
      obtain ⟨u, g1, g2⟩ := s.slot j r h
      refine ⟨u, g1, g2.move Sub.refl fun b k w h1 h2 h3 => ⟨h1, h2, ?_⟩⟩
      have hb : b ≠ a := fun z => by subst z; rw [hown] at h1; cases h1; exact hj rfl
      rw [upd_ne hb]; exact h3
  · have hb : b ≠ a := fun z => by subst z; rw [hown] at hm; cases hm
    rw [upd_ne hb]; exact h
  · by_cases hb : b = a
    · subst hb; rw [upd_same]; simp
    · rw [upd_ne hb]; exact h
/-- what a slot shows: its list where it stands -/
theorem Gst.shown {i : Nat} {d : D} (s : Gst fa K H F ow e σ) (h : shown (gt e i) = some d) : ∃ v, σ[i]? = some (some v) ∧
    ((∃ a vs ds, v = .ref a ∧ d = .lst ds ∧ H a = some (.lst vs) ∧ F a = none ∧ RepL fa K F ds vs) ∨ (∃ a kvs kds, v = .ref a ∧ d = .dct kds ∧ H a = some (.dK kvs) ∧ F a = none ∧ RepK fa K F kds kvs) ∨ Rep fa K F d v) := by
  cases q : gt e i with
  | un => rw [q] at h; cases h
  | ob _ _ => rw [q] at h; cases h
  | val d' =>
    rw [q] at h; cases h
    obtain ⟨o, h1, v, rfl, h3⟩ := s.slot i _ (gt_some q (by simp))
    exact ⟨v, h1, .inr (.inr h3)⟩
  | ml xs =>
    rw [q] at h; cases h
    obtain ⟨o, h1, a, vs, rfl, h2, h3, h4, h5⟩ := s.slot i _ (gt_some q (by simp))
    exact ⟨_, h1, .inl ⟨a, vs, xs, rfl, rfl, h4, h3, h5⟩⟩
  | lk xs =>
    rw [q] at h; cases h
    obtain ⟨o, h1, a, vs, rfl, h2, h3, h4, h5⟩ := s.slot i _ (gt_some q (by simp))
    exact ⟨_, h1, .inl ⟨a, vs, xs, rfl, rfl, h4, h3, h5⟩⟩
  | md xs =>
    rw [q] at h; cases h
    obtain ⟨o, h1, a, vs, rfl, h2, h3, h4, h5⟩ := s.slot i _ (gt_some q (by simp))
    exact ⟨_, h1, .inr (.inl ⟨a, vs, xs, rfl, rfl, h4, h3, h5⟩)⟩
/-- .. for an operation that keeps nothing of it: as a value over another frozen part -/
theorem Gst.shownF {i : Nat} {d : D} (s : Gst fa K H F ow e σ) (h : Mi.shown (gt e i) = some d) : ∃ v G, σ[i]? = some (some v) ∧ Sub F G ∧ Sub G H ∧ Rep fa K G d v := by
  obtain ⟨v, h1, h2⟩ := s.shown h
  rcases h2 with ⟨a, vs, ds, rfl, rfl, g1, g2, g3⟩ | ⟨a, vs, ds, rfl, rfl, g1, g2, g3⟩ | r
  · have mono : Sub F (upd F a (.lst vs)) := Sub.new Sub.refl g2
    refine ⟨_, upd F a (.lst vs), h1, mono, fun b u h => ?_, .lst (.inl upd_same) (g3.mono mono)⟩
    by_cases hb : b = a
    · subst hb; rw [upd_same] at h; cases h; exact g1
    · rw [upd_ne hb] at h; exact s.sub b u h
  · have mono : Sub F (upd F a (.dK vs)) := Sub.new Sub.refl g2
    refine ⟨_, upd F a (.dK vs), h1, mono, fun b u h => ?_, .dct upd_same (g3.mono mono)⟩
    by_cases hb : b = a
    · subst hb; rw [upd_same] at h; cases h; exact g1
    · rw [upd_ne hb] at h; exact s.sub b u h
  · exact ⟨v, F, h1, Sub.refl, s.sub, r⟩
end
section
variable {lev : Nat} {fa : Nat → Option Addr} {xr : XR} {m : Nm} {c : Cfg} {sc : Scope} {W : WX} {X : Cx} {e : Expr}
theorem IxR.or3 {r r' r'' : R2} (h : IxR X r) (h' : IxR X r') (h'' : IxR X r'') : IxR X (fun x y H Q => r x y H Q ∨ r' x y H Q ∨ r'' x y H Q) := h.or (h'.or h'')
theorem snd_bsub (C : Ctx lev fa xr m c sc W X) {i : Nat} {x : Str} {a : CE} {eb : Expr} {p pos : Pos} (hx : nmC m.N sc i x = true) (hb : PE X eb (tE fa X.K xr false W a)) (hn : PlainIx eb) :
    PE X (.Subscript (.Name x p) eb pos) (tE fa X.K xr false W (xBsub i a)) := by
  refine (pe_ix (IxR.or3 ix_list (ix_dict (by have := C.units; omega)) (sub_sound (fa := fa) C.units)) (C.name hx) hb hn).imp fun σ H Q ⟨F, ow, env, s, g⟩ => ?_
  unfold xBsub at g
  cases q : shown (gt env i) with
  | none => rw [q] at g; exact g.elim
  | some d0 =>
    rw [q] at g
    obtain ⟨v, h1, _⟩ := s.shown q
    refine ⟨v, h1, F, ow, env, s, ?_⟩
    refine (Good.bind g).mono fun y e2 H2 F2 ow2 ev2 s2 g2 w hw => ?_
    have hw := hw.rep (fr := false)
    cases q2 : shown (gt e2 i) with
    | none => rw [q2] at g2; exact g2.elim
    | some d =>
      rw [q2] at g2
      obtain ⟨r, er, g5⟩ := g2.lift
      clear g2
      obtain ⟨v', h2, hd⟩ := s2.shown q2
      rw [h1] at h2
      cases h2
      rcases hd with ⟨b, vs, ds, rfl, rfl, k1, k2, k3⟩ | ⟨b, vs, ds, rfl, rfl, k1, k2, k3⟩ | rd
      · cases hw <;> simp only [subD] at er <;> first | cases er | skip
        obtain ⟨z, e', rz⟩ := atI_rep k3 er
        exact .inl ⟨_, _, _, _, rfl, rfl, SqL.of k1, e', (Good.out g5 s2).same s2.sub rz⟩
      · cases hw <;> simp only [subD] at er <;> first | cases er | skip
        · obtain ⟨z, e', rz⟩ := repK_look k3 er
          exact .inr (.inl ⟨_, z, rfl, by rw [← e']; exact DGet.k (k := .inl _) k1, (Good.out g5 s2).same s2.sub rz⟩)
        · obtain ⟨z, e', rz⟩ := repK_look k3 er
          exact .inr (.inl ⟨_, z, rfl, by rw [← e']; exact DGet.k (k := .inr _) k1, (Good.out g5 s2).same s2.sub rz⟩)
      · exact .inr (.inr ⟨F2, d, y, r, s2.sub, rd, hw, er, g5.out s2⟩)
theorem snd_bin (C : Ctx lev fa xr m c sc W X) {n : Bool} {i : Nat} {x : Str} {a : CE} {ea : Expr} {p pos : Pos} (hx : nmC m.N sc i x = true) (ha : PE X ea (tE fa X.K xr false W a)) :
    PE X (.Compare ea [if n then .NotIn else .In] [.Name x p] pos) (tE fa X.K xr false W (xBin n i a)) := by
  refine (pe_cmpR (cmp_sound (fa := fa) _ C.units) ha (C.name hx) rfl).imp fun σ H Q ⟨F, ow, env, s, g⟩ => ⟨F, ow, env, s, ?_⟩
  refine g.bind.mono fun y e2 H2 F2 ow2 ev2 s2 g2 w hw => ?_
  have hw := hw.rep (fr := false)
  cases q2 : shown (gt e2 i) with
  | none => rw [q2] at g2; exact g2.elim
  | some d =>
    rw [q2] at g2
    obtain ⟨r, er, g2⟩ := g2.lift
    cases q3 : inD y d with
    | none => rw [q3] at er; cases er
    | some k =>
      rw [q3] at er
      cases er
      obtain ⟨v', G, h2, m1, m2, rd⟩ := s2.shownF q2
      refine ⟨v', h2, G, y, d, _, m2, hw.mono m1, rd, ?_, (Good.out g2 s2).same s2.sub (.bl _)⟩
      cases n with
      | true => simp only [if_true, cmpD, q3]; cases k <;> rfl
      | false => simp only [Bool.false_eq_true, if_false, cmpD, q3]; cases k <;> rfl
theorem snt_bin (C : Ctx lev fa xr m c sc W X) {n : Bool} {i : Nat} {x : Str} {a : CE} {ea : Expr} {p pos : Pos} (hx : nmC m.N sc i x = true) (ha : PE X ea (tE fa X.K xr false W a)) :
    PT X (.Compare ea [if n then .NotIn else .In] [.Name x p] pos) (tT fa X.K xr W (tru' (xBin n i a))) := by
  refine (pt_cmpR (cmp_sound (fa := fa) _ C.units) ha (C.name hx) rfl).imp fun σ H Q ⟨F, ow, env, s, g⟩ => ⟨F, ow, env, s, ?_⟩
  have g := (Good.bind (r := xBin n i a env) g)
  unfold xBin at g
  refine g.bind.mono fun y e2 H2 F2 ow2 ev2 s2 g2 w hw => ?_
  have hw := hw.rep (fr := false)
  cases q2 : shown (gt e2 i) with
  | none => rw [q2] at g2; exact g2.elim
  | some d =>
    rw [q2] at g2
    obtain ⟨r, er, g2⟩ := g2.lift
    cases q3 : inD y d with
    | none => rw [q3] at er; cases er
    | some k =>
      rw [q3] at er
      cases er
      obtain ⟨v', G, h2, m1, m2, rd⟩ := s2.shownF q2
      refine ⟨v', h2, G, y, d, (k != n), m2, hw.mono m1, rd, ?_, (k != n), rfl, Good.ok (a := (k != n)) (e := e2) (Good.ok (a := D.bl (k != n)) (e := e2) g2 s2) s2⟩
      cases n with
      | true => simp only [if_true, cmpD, q3]; cases k <;> rfl
      | false => simp only [Bool.false_eq_true, if_false, cmpD, q3]; cases k <;> rfl
theorem snd_bcmp (C : Ctx lev fa xr m c sc W X) {o : CmpOp} {i : Nat} {x : Str} {a : CE} {eb : Expr} {p pos : Pos} (hx : nmC m.N sc i x = true) (hb : PE X eb (tE fa X.K xr false W a)) (hn : behindInMarks o eb = false) :
    PE X (.Compare (.Name x p) [o] [eb] pos) (tE fa X.K xr false W (xBcmp o i a)) ∧ PT X (.Compare (.Name x p) [o] [eb] pos) (tT fa X.K xr W (tru' (xBcmp o i a))) := by
  have key : ∀ {σ : St} {H F : Hp} {ow : Ow} {env : En} {Q : D → En → Hp → Hp → Ow → Prop}, Gst fa X.K H F ow env σ → Good fa X.K xr W σ H F ow (xBcmp o i a env) Q → ∃ v, σ[i]? = some (some v) ∧ Good fa X.K xr W σ H F ow (a env) fun y e2 H2 F2 ow2 => ∀ w, Vd fa X.K false H H2 F2 ow2 y w →
      ∃ (G : Hp) (d : D) (r : Bool), Sub G H2 ∧ Rep fa X.K G d v ∧ Rep fa X.K G y w ∧ cmpD o d y = some r ∧ Good fa X.K xr W σ H2 F2 ow2 (.ok (.bl r) e2) Q := by
    intro σ H F ow env Q s g
    unfold xBcmp at g
    cases q : shown (gt env i) with
    | none => rw [q] at g; exact (show False from g).elim
    | some d0 =>
      rw [q] at g
      obtain ⟨v, h1, _⟩ := s.shown q
      refine ⟨v, h1, (Good.bind g).mono fun y e2 H2 F2 ow2 ev2 s2 g2 w hw => ?_⟩
      have hw := hw.rep (fr := false)
      cases q2 : shown (gt e2 i) with
      | none => rw [q2] at g2; exact (show False from g2).elim
      | some d =>
        rw [q2] at g2
        obtain ⟨r, er, g5⟩ := Good.lift g2
        cases q3 : cmpD o d y with
        | none => rw [q3] at er; cases er
        | some k =>
          rw [q3] at er
          cases er
          obtain ⟨v', G, h2, m1, m2, rd⟩ := s2.shownF q2
          rw [h1] at h2
          cases h2
          exact ⟨G, d, k, m2, rd, hw.mono m1, q3, g5⟩
  constructor
  · refine (pe_cmpR (cmp_sound (fa := fa) o C.units) (C.name hx) hb hn).imp fun σ H Q ⟨F, ow, env, s, g⟩ => ?_
    obtain ⟨v, h1, g⟩ := key s g
    refine ⟨v, h1, F, ow, env, s, g.mono fun y e2 H2 F2 ow2 ev2 s2 g2 w hw => ?_⟩
    obtain ⟨G, d, r, k1, k2, k3, k4, k5⟩ := g2 w hw
    exact ⟨G, d, y, r, k1, k2, k3, k4, (Good.out k5 s2).same s2.sub (.bl _)⟩
  · refine (pt_cmpR (cmp_sound (fa := fa) o C.units) (C.name hx) hb hn).imp fun σ H Q ⟨F, ow, env, s, g⟩ => ?_
    obtain ⟨v, h1, g⟩ := key s (Good.bind (r := xBcmp o i a env) g)
    refine ⟨v, h1, F, ow, env, s, g.mono fun y e2 H2 F2 ow2 ev2 s2 g2 w hw => ?_⟩
    obtain ⟨G, d, r, k1, k2, k3, k4, k5⟩ := g2 w hw
    refine ⟨G, d, y, r, k1, k2, k3, k4, r, rfl, ?_⟩
    have k5 := Good.ok (a := D.bl r) k5 s2
    obtain ⟨b, eb, k5⟩ := Good.lift k5
    cases eb
    exact k5.ok s2
theorem snd_blen (C : Ctx lev fa xr m c sc W X) {i : Nat} {x y : Str} {p q pos : Pos} (hx : nmC m.N sc i x = true) (hy : y = "len") (hg : glC m.G sc y .bu = true) : PE X (.Call (.Name y p) [.Name x q] [] pos) (tE fa X.K xr false W (xBlen i)) := by
  unfold glC at hg
  simp only [Bool.and_eq_true, decide_eq_true_eq] at hg
  obtain ⟨⟨g1, g2⟩, g3⟩ := hg
  obtain ⟨n1, _, n3⟩ := node_of g3
  subst hy
  refine (pe_callB (bi_sound (fa := fa) C.calm C.units .len) (C.glo _ g1) (C.bu _ g2) PySem.boot_len (pa_cons (C.name hx) pa_nil) n3 n1 rfl rfl).imp fun σ H Q ⟨F, ow, env, s, g⟩ => ?_
  unfold xBlen at g
  cases q2 : shown (gt env i) with
  | none => rw [q2] at g; exact g.elim
  | some d =>
    rw [q2] at g
    obtain ⟨r, er, g2⟩ := g.lift
    obtain ⟨v', G, h2, m1, m2, rd⟩ := s.shownF q2
    refine ⟨v', h2, G, [d], r, m2, .cons rd .nil, er, ?_⟩
    have hi : ∃ n, r = .int n := by
      cases d <;> simp only [biD] at er <;> first | (cases er; exact ⟨_, rfl⟩) | (split at er <;> first | (cases er; exact ⟨_, rfl⟩) | cases er) | cases er
    obtain ⟨n, rfl⟩ := hi
    intro z F' H' gr rz
    cases rz
    exact g2 H' F ow ⟨Sub.refl, fun a o h _ => gr.keep a o h, fun a h => Sub.dom gr.keep h, fun _ h => .inl h, fun _ h => .inl h, fun _ h => .inl h⟩ (s.grow ⟨s.sub.trans gr.keep, Sub.refl, gr.keep, fun _ h => .inl h⟩) _ (Vd.of (.int _))

/-- isinstance -/
theorem ty_val (t : Ty) (h : tyPlain t = true) : bootBuiltins (tyS t) = some (.type (tyN t)) := by
  cases t <;> first | (simp [tyPlain] at h; done) | decide +kernel
theorem pe_ty (C : Ctx lev fa xr m c sc W X) {t : Ty} {x : Str} {p : Pos} (ht : tyPlain t = true) (hx : x = tyS t) (hg : glC m.G sc x .bu = true) : PE X (.Name x p) (tC (.ty (tyN t))) := by
  unfold glC at hg
  simp only [Bool.and_eq_true, decide_eq_true_eq] at hg
  obtain ⟨⟨g1, g2⟩, g3⟩ := hg
  obtain ⟨n1, _, n3⟩ := node_of g3
  subst hx
  exact pe_bltn (v := .ty (tyN t)) (C.glo _ g1) (C.bu _ g2) (ty_val t ht) rfl n3 n1
theorem isiD_some {d : D} {ts : List Ty} {r : D} (h : isiD d ts = some r) : isDat d = true ∧ r = .bl (ts.any (isTy d)) := by
  unfold isiD at h
  split at h
  · cases h; exact ⟨by assumption, rfl⟩
  · cases h
theorem snd_isi1 (C : Ctx lev fa xr m c sc W X) {t : Ty} {o : CE} {eo : Expr} {x y : Str} {p q pos : Pos} (hy : y = "isinstance") (hg : glC m.G sc y .bu = true) (ht : tyPlain t = true) (hx : x = tyS t) (hgx : glC m.G sc x .bu = true)
    (ho : PE X eo (tE fa X.K xr false W o)) (hs : starEach (eo :: [.Name x p]) X.env = (false, eval eo X.env) :: starEach [.Name x p] X.env) : PE X (.Call (.Name y q) [eo, .Name x p] [] pos) (tE fa X.K xr false W (xIsi [t] o)) := by
  unfold glC at hg
  simp only [Bool.and_eq_true, decide_eq_true_eq] at hg
  obtain ⟨⟨g1, g2⟩, g3⟩ := hg
  obtain ⟨n1, _, n3⟩ := node_of g3
  subst hy
  refine (pe_callB call_isi (C.glo _ g1) (C.bu _ g2) (by decide +kernel) (pa_cons ho (pa_cons (pe_ty C ht hx hgx) pa_nil) hs) n3 n1 hs rfl).imp fun σ H Q ⟨F, ow, env, s, g⟩ => ⟨F, ow, env, s, ?_⟩
  refine g.bind.mono fun d e1 H1 F1 ow1 ev1 s1 g1 v hv => ?_
  have hv := hv.rep (fr := false)
  obtain ⟨r, er, g5⟩ := g1.lift
  obtain ⟨hd, rfl⟩ := isiD_some er
  refine ⟨v, .ty (tyN t), .type (tyD d), .type (tyN t), isTy d t, rfl, .ty _, tyx s1.sub hv hd, kit_one hd t ht, ?_⟩
  have := (Good.out g5 s1).same s1.sub (.bl _)
  simpa using this
theorem pa_tys (C : Ctx lev fa xr m c sc W X) : ∀ {ts : List Ty} {es : List Expr}, tysC m.G sc ts es = true → PA X es (fun σ H Q => Q (ts.map fun t => .ty (tyN t)) H) ∧ (∀ t ∈ ts, tyPlain t = true)
  | [], [], _ => ⟨pa_nil, by simp⟩
  | [], _ :: _, h => by simp [tysC] at h
  | _ :: _, [], h => by simp [tysC] at h
  | t :: ts, e :: es, h => by
    cases e <;> simp only [tysC] at h <;> (try (cases h; done))
    simp only [Bool.and_eq_true, decide_eq_true_eq] at h
    obtain ⟨⟨⟨h1, h2⟩, h3⟩, h4⟩ := h
    obtain ⟨a, b⟩ := pa_tys C h4
    exact ⟨pa_cons (pe_ty C h1 h2 h3) a rfl, fun u hu => (List.mem_cons.mp hu).elim (fun e => by subst e; exact h1) (b u)⟩
theorem clsV_tys : ∀ ts : List Ty, Paired ClsV (ts.map fun t => V.ty (tyN t)) (ts.map fun t => Value.type (tyN t))
  | [] => .nil
  | t :: ts => .cons (.ty _) (clsV_tys ts)
theorem snd_isiT (C : Ctx lev fa xr m c sc W X) {ts : List Ty} {o : CE} {eo : Expr} {es : List Expr} {y : Str} {k : Nat} {p q pos : Pos} (hy : y = "isinstance") (hg : glC m.G sc y .bu = true) (ht : tysC m.G sc ts es = true) (hl : ts.length ≤ 1000)
    (ho : PE X eo (tE fa X.K xr false W o)) (hs : starEach (eo :: [.Tuple es k p]) X.env = (false, eval eo X.env) :: starEach [.Tuple es k p] X.env) : PE X (.Call (.Name y q) [eo, .Tuple es k p] [] pos) (tE fa X.K xr false W (xIsi ts o)) := by
  unfold glC at hg
  simp only [Bool.and_eq_true, decide_eq_true_eq] at hg
  obtain ⟨⟨g1, g2⟩, g3⟩ := hg
  obtain ⟨n1, _, n3⟩ := node_of g3
  subst hy
  obtain ⟨pa, pl⟩ := pa_tys C ht
  refine (pe_callB call_isiT (C.glo _ g1) (C.bu _ g2) (by decide +kernel) (pa_cons ho (pa_cons (pe_tup pa) pa_nil rfl) hs) n3 n1 hs rfl).imp fun σ H Q ⟨F, ow, env, s, g⟩ => ⟨F, ow, env, s, ?_⟩
  refine g.bind.mono fun d e1 H1 F1 ow1 ev1 s1 g1 v hv => ?_
  have hv := hv.rep (fr := false)
  obtain ⟨r, er, g5⟩ := g1.lift
  obtain ⟨hd, rfl⟩ := isiD_some er
  refine ⟨by rw [List.length_map, sizeLine_eq]; omega, fun tp hp => ?_⟩
  have grow : Grow F1 H1 F1 (upd H1 tp (.tup (ts.map fun t => .ty (tyN t)))) := ⟨Sub.new s1.sub hp, Sub.refl, Sub.new Sub.refl hp, fun _ h => .inl h⟩
  refine ⟨v, tp, _, .type (tyD d), _, _, rfl, upd_same, clsV_tys ts, tyx grow.sub hv hd, kit_any hd ts pl, ?_⟩
  exact g5 _ _ _ (.grow grow) (s1.grow grow) _ (Vd.of (.bl _))
/-- x.pop() -/
theorem snd_pop0 (C : Ctx lev fa xr m c sc W X) {i : Nat} {x : Str} {p apos pos : Pos} (hx : nmC m.N sc i x = true) (hline : (apos.endLine == pos.line) = true) : PE X (.Call (.Attribute (.Name x p) "pop" apos) [] [] pos) (tE fa X.K xr false W (xPop i [])) := by
  refine (pe_bm0 PySem.F.plainAttrs_list PySem.F.slot_list_pop PySem.F.type_list_pop mt_pop (C.name hx) rfl hline).imp fun σ H Q ⟨F, ow, env, s, g⟩ => ?_
  unfold xPop at g
  cases q : gt env i with
  | ml xs =>
    rw [q] at g
    have g : Good fa X.K xr W σ H F ow (match gt env i with
      | .ml xs => (match xs[xs.length - 1]? with | some d => st env i (.ml xs.dropLast) fun e => .ok d e | none => .no)
      | _ => .no) _ := g
    rw [q] at g
    have hi := gt_some q (by simp)
    obtain ⟨o, h1, a, vs, rfl, h2, h3, h4, h5⟩ := s.slot i _ hi
    cases q2 : xs[xs.length - 1]? with
    | none => simp only [q2] at g; exact g.elim
    | some d =>
      simp only [q2] at g
      rw [st_eq] at g
      obtain ⟨v, hv, rv⟩ := h5.get q2
      rw [h5.length] at hv
      obtain ⟨s', ev⟩ := s.write (q := .ml xs.dropLast) (o := .lst vs.dropLast) hi h1 h2 h3 ⟨a, _, rfl, h2, h3, upd_same, h5.dropLast⟩
      exact ⟨_, h1, .inl ⟨rfl, _, SqL.of h4⟩, a, vs, v, rfl, rfl, h4, hv, g _ _ _ ev s' v (Vd.of rv)⟩
  | _ => rw [q] at g; exact g.elim
theorem big_eq : big = 2 ^ 62 := rfl
/-- x.pop(k) -/
theorem snd_pop1 (C : Ctx lev fa xr m c sc W X) {i : Nat} {x : Str} {f : CE} {a0 : M} {ea : Expr} {p apos pos : Pos} (hx : nmC m.N sc i x = true) (ha : PE X ea (tE fa X.K xr false W f)) (hline : (apos.endLine == pos.line) = true)
    (hs : starEach [ea] X.env = [(false, eval ea X.env)]) (hfew : ((backTo pos (starEach [ea] X.env)).all (fun x => !x.1) && (backToKw pos (keywordEach [] X.env)).all (fun x => x.1.isSome)
      && decide ([ea].length + ([] : List Keyword).length + (if ([] : List Keyword).isEmpty then 0 else 1) < 30)) = true) :
    PE X (.Call (.Attribute (.Name x p) "pop" apos) [ea] [] pos) (tE fa X.K xr false W (xPop i [(false, a0, f)])) := by
  refine (pe_bm PySem.F.plainAttrs_list PySem.F.slot_list_pop PySem.F.type_list_pop mt_popAt (C.name hx) (pa_cons ha pa_nil hs) rfl hfew hline hs rfl).imp fun σ H Q ⟨F, ow, env, s, g⟩ => ?_
  unfold xPop at g
  cases q : gt env i with
  | ml xs =>
    rw [q] at g
    obtain ⟨o, h1, a, vs, rfl, _, _, h4, _⟩ := s.slot i _ (gt_some q (by simp))
    refine ⟨_, h1, .inl ⟨rfl, _, SqL.of h4⟩, F, ow, env, s, ?_⟩
    have eqv : esC [(false, a0, f)] env = (f env).bind fun d e => .ok [d] e := by
      show ((f env).bind fun d e => (R.ok [] e).bind fun ds e => .ok (d :: ds) e) = _
      rfl
    have g := Good.bind g
    rw [eqv] at g
    refine g.bind.mono fun d e1 H1 F1 ow1 ev1 s1 g1 v hv => ?_
    have hv := hv.rep (fr := false)
    have g1 := g1.ok s1
    cases q2 : gt e1 i with
    | ml xs =>
      rw [q2] at g1
      cases hv with
      | int k =>
        simp only at g1
        split at g1
        · rename_i hk
          cases q3 : ixN xs.length k with
          | none => rw [q3] at g1; exact g1.elim
          | some j =>
            rw [q3] at g1
            simp only at g1
            cases q4 : xs[j]? with
            | none => rw [q4] at g1; exact g1.elim
            | some d =>
              rw [q4] at g1
              simp only at g1
              rw [st_eq] at g1
              have hi := gt_some q2 (by simp)
              obtain ⟨o, h1', a', vs', rfl, k2, k3, k4, k5⟩ := s1.slot i _ hi
              rw [h1] at h1'
              cases h1'
              obtain ⟨v, hv, rv⟩ := k5.get q4
              obtain ⟨s', ev⟩ := s1.write (q := .ml (xs.eraseIdx j)) (o := .lst (vs'.eraseIdx j)) hi h1 k2 k3 ⟨a, _, rfl, k2, k3, upd_same, k5.eraseIdx j⟩
              rw [k5.length] at q3
              rw [big_eq] at hk
              exact ⟨a, vs', k, j, v, rfl, rfl, k4, by omega, by omega, (ixN_seq q3).1, hv, g1 _ _ _ ev s' v (Vd.of rv)⟩
        · exact g1.elim
      | _ => exact g1.elim
    | _ => rw [q2] at g1; exact g1.elim
  | _ => rw [q] at g; exact g.elim
end
end Mi
end
section
/-! what is walked -/
namespace Mi
open PySem L2 PySem.Spec
section
variable (fa : Nat → Option Addr) (K : PySem.W.Frag)
/-- the iterator J yields the items xs, whatever is done to what one owns -/
structure Wk (J : L2.It) (xs : List D) (H F : Hp) (ow : Ow) : Prop where
  go : ∀ (H' F' : Hp) (ow' : Ow), Sub F F' → Sub F' H' → ∀ i d, xs[i]? = some d → J.go i H' ∧ ∀ x H'', J.yld i H' x H'' → ∃ F'', Grow F' H' F'' H'' ∧ Rep fa K F'' d x
  stop : ∀ (H' F' : Hp) (ow' : Ow), Sub F F' → Sub F' H' → J.stop xs.length H'
def tI (xr : XR) (W : WX) (ce : CI) : TI := fun σ H R => ∃ F ow e, Gst fa K H F ow e σ ∧ Good fa K xr W σ H F ow (ce e) fun xs _ H' F' ow' => ∀ J, Wk fa K J xs H' F' ow' → R J H'
end
theorem _root_.L2.PI.imp {X : Cx} {tg e : Expr} {t t' : TI} (h : PI X tg e t) (i : ∀ σ H R, t' σ H R → t σ H R) : PI X tg e t' := ⟨fun pins s σ H R I q => h.run pins s σ H R I (i σ H R q)⟩
section
variable {lev : Nat} {fa : Nat → Option Addr} {xr : XR} {m : Nm} {c : Cfg} {sc : Scope} {W : WX} {X : Cx} {e tg : Expr} {F H : Hp} {ow : Ow}
theorem SqL.same {K : PySem.W.Frag} {H : Hp} {a : Addr} {vs : List V} (h : H a = some (.lst vs)) : SqL K H a vs := SqL.of h
/-- a list that stands, its items -/
theorem wk_list {K : PySem.W.Frag} {a : Addr} {vs : List V} {xs : List D} (hr : RepL fa K F xs vs) (hst : ∀ (H' F' : Hp) (ow' : Ow), Sub F F' → Sub F' H' → SqL K H' a vs) : Wk fa K (Itl K a) xs H F ow := by
  refine ⟨fun H' F' ow' ev sb i d hi => ?_, fun H' F' ow' ev sb => ⟨vs, hst H' F' ow' ev sb, by rw [hr.length]; exact Nat.le_refl _⟩⟩
  obtain ⟨v, hv, rv⟩ := hr.get hi
  have q := hst H' F' ow' ev sb
  refine ⟨⟨vs, v, q, hv⟩, fun x H'' ⟨e, y⟩ => ?_⟩
  subst e
  have z := y vs q
  rw [hv] at z
  cases z
  exact ⟨F', .refl sb, rv.mono ev⟩
theorem wk_tup {K : PySem.W.Frag} {a : Addr} {vs : List V} {xs : List D} (hr : RepL fa K F xs vs) (hst : SqT K F a vs) : Wk fa K (Itt K a) xs H F ow := by
  have hst : ∀ (H' F' : Hp) (ow' : Ow), Sub F F' → Sub F' H' → SqT K H' a vs := fun H' F' ow' ev sb => SqT.sub (ev.trans sb) hst
  refine ⟨fun H' F' ow' ev sb i d hi => ?_, fun H' F' ow' ev sb => ⟨vs, hst H' F' ow' ev sb, by rw [hr.length]; exact Nat.le_refl _⟩⟩
  obtain ⟨v, hv, rv⟩ := hr.get hi
  have q := hst H' F' ow' ev sb
  refine ⟨⟨vs, v, q, hv⟩, fun x H'' ⟨e, y⟩ => ?_⟩
  subst e
  have z := y vs q
  rw [hv] at z
  cases z
  exact ⟨F', .refl sb, rv.mono ev⟩
theorem wk_str {K : PySem.W.Frag} {z : Str} (hk : PyData.strOk z = true) : Wk fa K (Its z) (z.cps.toList.map fun c => .str ⟨#[c]⟩) H F ow := by
  refine ⟨fun H' F' ow' ev sb i d hi => ?_, fun H' F' ow' ev sb => by show z.cps.size ≤ _; simp⟩
  rw [List.getElem?_map] at hi
  cases q : z.cps.toList[i]? with
  | none => rw [q] at hi; cases hi
  | some ch =>
    rw [q] at hi
    cases hi
    have hlt : i < z.cps.size := by have := (List.getElem?_eq_some_iff.mp q).1; simpa using this
    refine ⟨hlt, fun x H'' ⟨e, c', hc, ex⟩ => ?_⟩
    subst e
    have : c' = ch := by
      rw [← Array.getElem?_toList, q] at hc
      exact (Option.some.inj hc).symm
    subst this
    rw [ex]
    exact ⟨F', .refl sb, .str (strOk_sign hk (List.mem_of_getElem? q))⟩
theorem wk_range {K : PySem.W.Frag} {lo : Int} {n : Nat} {xs : List D} (hl : xs.length = n) (hx : ∀ i, i < n → xs[i]? = some (.int (lo + (i : Nat)))) : Wk fa K (Itr lo n) xs H F ow := by
  refine ⟨fun H' F' ow' ev sb i d hi => ?_, fun H' F' ow' ev sb => by show n ≤ _; omega⟩
  have hlt : i < n := by have := (List.getElem?_eq_some_iff.mp hi).1; omega
  refine ⟨hlt, fun x H'' ⟨e, y⟩ => ?_⟩
  subst e
  rw [hx i hlt] at hi
  cases hi
  rw [y]
  exact ⟨F', .refl sb, .int _⟩
/-- a value that is walked -/
theorem pi_any {te : TE} {R' : V → Hp → (L2.It → Hp → Prop) → Prop} (he : PE X e te)
    (hR : ∀ x H R, R' x H R → (∃ a, x = .ref a ∧ (∃ xs, SqL X.K H a xs) ∧ R (Itl X.K a) H) ∨ (∃ a, x = .ref a ∧ (∃ xs, SqT X.K H a xs) ∧ R (Itt X.K a) H) ∨ (∃ z, x = .str z ∧ R (Its z) H)) :
    PI X tg e (fun σ H R => te σ H fun x H1 => R' x H1 R) := by
  refine ⟨fun pins s σ H R I h => ?_⟩
  refine thn (he.run pins s σ H _ I h) fun v s1 ⟨x, H1, I1, r1, q1⟩ => ?_
  rcases hR _ _ _ q1 with ⟨a, e, ⟨xs, hq⟩, q⟩ | ⟨a, e, ⟨xs, hq⟩, q⟩ | ⟨z, e, q⟩
  · subst e
    cases r1
    obtain ⟨its, rv, p, hz⟩ := I1.list hq
    refine wpAny_pyIter_list p.isList ?_
    refine ⟨s1.heap.objs.size, [s1.heap.objs.size], _, _, H1, rfl, I1.kept (t' := s1.toks) fun b o e => Heap.get?_push_of_some _ e, turn_list a _, ⟨_, Heap.get?_push_size _ rfl, rfl, rfl⟩, fun b hb => ?_, q⟩
    have e : b = s1.heap.objs.size := by simpa using hb
    subst e
    exact I1.fpOk (Nat.le_refl _) (I1.hok.fresh (Nat.le_refl _))
  · subst e
    cases r1
    obtain ⟨its, rv, p, hz⟩ := I1.tuple hq
    refine wpAny_pyIter_tuple (show s1.heap.IsTuple a its.toArray from p) ?_
    refine ⟨s1.heap.objs.size, [s1.heap.objs.size], _, _, H1, rfl, I1.kept (t' := s1.toks) fun b o e => Heap.get?_push_of_some _ e, turn_tuple a _, ⟨_, Heap.get?_push_size _ rfl, rfl, rfl⟩, fun b hb => ?_, q⟩
    have e : b = s1.heap.objs.size := by simpa using hb
    subst e
    exact I1.fpOk (Nat.le_refl _) (I1.hok.fresh (Nat.le_refl _))
  · subst e
    obtain ⟨t, rfl⟩ := r1
    cases ha : z.cps.all (· < 128)
    · exact wpAny_pyIter_wide ha (pi_one (tk := s1.toks) I1 _ (turn_str _ z t "str_iterator" (.inr rfl)) ⟨_, Heap.get?_push_size _ rfl, rfl, rfl⟩ q)
    · exact wpAny_pyIter_ascii ha (pi_one (tk := s1.toks) I1 _ (turn_str _ z t "str_ascii_iterator" (.inl rfl)) ⟨_, Heap.get?_push_size _ rfl, rfl, rfl⟩ q)
theorem sni_e {a : CE} (he : PE X e (tE fa X.K xr false W a)) : PI X tg e (tI fa X.K xr W (iE a)) := by
  refine (pi_any (R' := fun x H R => (∃ a, x = .ref a ∧ (∃ xs, SqL X.K H a xs) ∧ R (Itl X.K a) H) ∨ (∃ a, x = .ref a ∧ (∃ xs, SqT X.K H a xs) ∧ R (Itt X.K a) H) ∨ (∃ z, x = .str z ∧ R (Its z) H)) he fun _ _ _ h => h).imp fun σ H R ⟨F, ow, env, s, g⟩ => ⟨F, ow, env, s, ?_⟩
  refine g.bind.mono fun d e1 H1 F1 ow1 ev1 s1 g1 v hv => ?_
  have hv := hv.rep (fr := false)
  obtain ⟨xs, ex, g2⟩ := g1.lift
  have g3 := g2.ok s1
  clear g1 g2
  cases hv with
  | lst h1 r1 => cases ex; exact .inl ⟨_, rfl, ⟨_, rd_of s1.sub h1⟩, g3 _ (wk_list r1 fun H' F' ow' ev sb => .inl (Rd.sub (ev.trans sb) h1))⟩
  | scr h1 r1 => cases ex; exact .inl ⟨_, rfl, ⟨_, SqL.sub s1.sub h1⟩, g3 _ (wk_list r1 fun H' F' ow' ev sb => SqL.sub (ev.trans sb) h1)⟩
  | tup h1 r1 => cases ex; exact .inr (.inl ⟨_, rfl, ⟨_, SqT.sub s1.sub h1⟩, g3 _ (wk_tup r1 h1)⟩)
  | str hk => cases ex; exact .inr (.inr ⟨_, rfl, g3 _ (wk_str hk)⟩)
  | _ => cases ex
theorem range_get (n i : Nat) (h : i < n) : (List.range n)[i]? = some i := by simp [h]
theorem rngD_one {ds : List D} {xs : List D} (h : rngD ds = some xs) : (∃ j, ds = [.int j] ∧ -(2 ^ 62) ≤ j ∧ j < 2 ^ 62 ∧ xs = (List.range j.toNat).map fun i => .int (i : Nat)) ∨
    (∃ i j, ds = [.int i, .int j] ∧ (-(2 ^ 62) ≤ i ∧ i < 2 ^ 62 ∧ -(2 ^ 62) ≤ j ∧ j < 2 ^ 62) ∧ xs = (List.range (j - i).toNat).map fun k => .int (i + (k : Nat))) := by
  unfold rngD at h
  have hb : big = 2 ^ 62 := rfl
  split at h
  · split at h
    · rename_i q; cases h; rw [hb] at q; exact .inl ⟨_, rfl, q.1, q.2, rfl⟩
    · cases h
  · split at h
    · rename_i q; cases h; rw [hb] at q; exact .inr ⟨_, _, rfl, q, rfl⟩
    · cases h
  · cases h
end
end Mi
end
section
/-! enumerate and zip over lists, tuples and texts -/
namespace Mi
open PySem L2 PySem.Spec
inductive Src | l (a : Addr) | t (a : Addr) | s (z : Str)
namespace Src
def At (K : PySem.W.Frag) (H : Hp) : Src → List V → Prop
  | l a, xs => SqL K H a xs
  | t a, xs => SqT K H a xs
  | s z, xs => xs = z.cps.toList.map fun c => .str ⟨#[c]⟩
def v : Src → V | l a => .ref a | t a => .ref a | s z => .str z
def val : Src → Tok → Value | l a, _ => .ref a | t a, _ => .ref a | s z, k => .str z k
def obj : Src → Tok → Obj
  | l a, _ => { cls := .type "list_iterator", data := .fields #[.ref a, .int 0 0] }
  | t a, _ => { cls := .type "tuple_iterator", data := .fields #[.ref a, .int 0 0] }
  | s z, k => { cls := .type (strIterType z), data := .fields #[.str z k, .int 0 0] }
def rest : Src → List Addr | l a => [a] | t a => [a] | s _ => []
def tn : Src → Addr → Nat → Heap → Prop
  | l a, it, i, h => h.IsListIter it a i
  | t a, it, i, h => h.IsTupleIter it a i
  | s z, it, i, h => ∃ k, h.IsStrIter it (strIterType z) z k i
def St (items : Array Value) (k : Tok) (it : Addr) : Src → Nat → Heap → Prop
  | l a, i, h => h.IsListIter it a i ∧ h.IsList a items
  | t a, i, h => h.IsTupleIter it a i ∧ h.IsTuple a items
  | s z, i, h => h.IsStrIter it (strIterType z) z k i
def P (items : Array Value) : Src → Nat → Value → Prop
  | l _, i, v => items[i]? = some v
  | t _, i, v => items[i]? = some v
  | s z, i, v => ∃ c u, z.cps[i]? = some c ∧ v = .str ⟨#[c]⟩ u
def n (items : Array Value) : Src → Nat | l _ => items.size | t _ => items.size | s z => z.cps.size
theorem draws {prog : Program} {w : World} {A : Around} (hh : A.handled = none) (S : Src) (it : Addr) (hne : it ∉ S.rest) (items : Array Value) (k : Tok) : Draws prog w A it (it :: S.rest) (S.n items) (S.P items) (S.St items k it) := by
  cases S with
  | l a => exact Draws.list hh it a (fun e => hne (by simp [rest, e])) items
  | t a => exact Draws.tuple hh it a (fun e => hne (by simp [rest, e])) items
  | s z => exact Draws.text hh it z k
theorem St.tn {S : Src} {items : Array Value} {k : Tok} {it : Addr} {i : Nat} {h : Heap} (q : S.St items k it i h) : S.tn it i h := by
  cases S with
  | l a => exact q.1
  | t a => exact q.1
  | s z => exact ⟨k, q⟩
theorem tn_keep {S : Src} {it : Addr} {i : Nat} {h h' : Heap} (q : S.tn it i h) (k : ∀ o, h.get? it = some o → h'.get? it = some o) : S.tn it i h' := by
  cases S with
  | l a => exact q.at k
  | t a => exact q.at k
  | s z => obtain ⟨t, o, ho, r⟩ := q; exact ⟨t, o, k o ho, r⟩
theorem tn_obj {S : Src} {it : Addr} {i : Nat} {h : Heap} (q : S.tn it i h) : ∃ o, h.get? it = some o ∧ ∀ v, o.data ≠ .cell v := by
  cases S with
  | l a => obtain ⟨o, ho, _, d⟩ := q; exact ⟨o, ho, fun v z => by rw [d] at z; cases z⟩
  | t a => obtain ⟨o, ho, _, d⟩ := q; exact ⟨o, ho, fun v z => by rw [d] at z; cases z⟩
  | s z => obtain ⟨t, o, ho, _, d⟩ := q; exact ⟨o, ho, fun v z => by rw [d] at z; cases z⟩
theorem tn_new {S : Src} {k : Tok} {it : Addr} {h : Heap} (q : h.get? it = some (S.obj k)) : S.tn it 0 h := by
  cases S with
  | l a => exact ⟨_, q, rfl, rfl⟩
  | t a => exact ⟨_, q, rfl, rfl⟩
  | s z => exact ⟨k, _, q, rfl, rfl⟩
section
variable {X : Cx} {pins : List (Addr × Obj)} {σ : L2.St} {H : Hp} {s : Shared}
theorem items {S : Src} {xs : List V} (I : Inv X pins σ H s) (h : S.At X.K H xs) : ∃ items, S.n items = xs.length ∧ (∀ i v, S.P items i v → ∃ x, xs[i]? = some x ∧ RelV x v) ∧ ∀ it i, S.tn it i s.heap → ∃ k, S.St items k it i s.heap := by
  cases S with
  | l a =>
    obtain ⟨its, rv, p, hz⟩ := I.list h
    refine ⟨its.toArray, by simp [n, rv.length], fun i v hp => ?_, fun it i q => ⟨0, q, p.isList⟩⟩
    have hp : its[i]? = some v := by simpa [P] using hp
    have hlt : i < xs.length := by rw [rv.length]; exact (List.getElem?_eq_some_iff.mp hp).1
    obtain ⟨u, hu, ru⟩ := rv.get (List.getElem?_eq_getElem hlt)
    rw [hp] at hu
    cases hu
    exact ⟨_, List.getElem?_eq_getElem hlt, ru⟩
  | t a =>
    obtain ⟨its, rv, p, hz⟩ := I.tuple h
    refine ⟨its.toArray, by simp [n, rv.length], fun i v hp => ?_, fun it i q => ⟨0, q, show s.heap.IsTuple a its.toArray from p⟩⟩
    have hp : its[i]? = some v := by simpa [P] using hp
    have hlt : i < xs.length := by rw [rv.length]; exact (List.getElem?_eq_some_iff.mp hp).1
    obtain ⟨u, hu, ru⟩ := rv.get (List.getElem?_eq_getElem hlt)
    rw [hp] at hu
    cases hu
    exact ⟨_, List.getElem?_eq_getElem hlt, ru⟩
  | s z =>
    have h : xs = z.cps.toList.map fun c => .str ⟨#[c]⟩ := h
    subst h
    refine ⟨#[], by simp [n], fun i v hp => ?_, fun it i q => q⟩
    obtain ⟨c, u, hc, rfl⟩ := hp
    refine ⟨.str ⟨#[c]⟩, ?_, ⟨u, rfl⟩⟩
    rw [List.getElem?_map, Array.getElem?_toList, hc]
    rfl
theorem lt {S : Src} {xs : List V} (I : Inv X pins σ H s) (h : S.At X.K H xs) : ∀ b ∈ S.rest, b < s.heap.objs.size := by
  cases S with
  | l a => obtain ⟨its, rv, p, hz⟩ := I.list h; intro b hb; have e : b = a := by simpa [rest] using hb
           subst e; exact p.lt
  | t a => obtain ⟨its, rv, p, hz⟩ := I.tuple h; intro b hb; have e : b = a := by simpa [rest] using hb
           subst e; obtain ⟨o, ho, _⟩ := id p; exact Heap.lt_size ho
  | s z => intro b hb; cases hb
theorem begins {S : Src} {xs : List V} (I : Inv X pins σ H s) (h : S.At X.K H xs) (k : Tok) : ∃ Hh, Begins (S.val k) (S.obj k) Hh ∧ Hh s.heap := by
  cases S with
  | l a => obtain ⟨its, rv, p, hz⟩ := I.list h; exact ⟨_, begins_list a its.toArray, p.isList⟩
  | t a => obtain ⟨its, rv, p, hz⟩ := I.tuple h; exact ⟨_, begins_tuple a its.toArray, show s.heap.IsTuple a its.toArray from p⟩
  | s z => exact ⟨_, begins_text z k, trivial⟩
theorem rel {S : Src} {u : Value} (h : RelV S.v u) : ∃ k, u = S.val k := by
  cases S with
  | l a => cases h; exact ⟨0, rfl⟩
  | t a => cases h; exact ⟨0, rfl⟩
  | s z => obtain ⟨k, rfl⟩ := h; exact ⟨k, rfl⟩
end
end Src
/-- tuples, each new -/
def Itp (ok : Hp → Prop) (ts : List (List V)) : L2.It :=
  ⟨fun i H => ok H ∧ i < ts.length, fun i H v H' => ∃ T xs, v = .ref T ∧ H T = none ∧ H' = upd H T (.tup xs) ∧ ts[i]? = some xs, fun i H => ok H ∧ i = ts.length⟩
def enumV (n : Nat) : List V → List (List V) | [] => [] | x :: xs => [.int n, x] :: enumV (n + 1) xs
theorem enumV_len (xs : List V) : ∀ n, (enumV n xs).length = xs.length := by
  induction xs with
  | nil => intro n; rfl
  | cons x xs ih => intro n; simp [enumV, ih]
theorem enumV_get' {xs : List V} {x : V} : ∀ {n i : Nat}, xs[i]? = some x → (enumV n xs)[i]? = some [.int ((n + i : Nat) : Int), x] := by
  induction xs with
  | nil => intro n i h; cases h
  | cons y ys ih =>
    intro n i h
    cases i with
    | zero => cases h; rfl
    | succ i =>
      have := ih (n := n + 1) (i := i) h
      rw [show n + (i + 1) = n + 1 + i by omega]
      exact this
theorem enumV_get {xs : List V} {x : V} {i : Nat} (h : xs[i]? = some x) : (enumV 0 xs)[i]? = some [.int (i : Int), x] := by
  have := enumV_get' (n := 0) h
  rwa [Nat.zero_add] at this
theorem enumV_two (xs : List V) : ∀ n, ∀ ys ∈ enumV n xs, ys.length = 2 := by
  induction xs with
  | nil => intro n ys h; cases h
  | cons x xs ih =>
    intro n ys h
    rcases List.mem_cons.mp h with h | h
    · rw [h]; rfl
    · exact ih _ ys h
def zipV2 : List V → List V → List (List V) | x :: xs, y :: ys => [x, y] :: zipV2 xs ys | _, _ => []
def zipV3 : List V → List V → List V → List (List V) | x :: xs, y :: ys, z :: zs => [x, y, z] :: zipV3 xs ys zs | _, _, _ => []
theorem zipV2_len : ∀ xs ys, (zipV2 xs ys).length = min xs.length ys.length
  | [], ys => by simp [zipV2]
  | _ :: _, [] => by simp [zipV2]
  | x :: xs, y :: ys => by simp [zipV2, zipV2_len xs ys]
theorem zipV2_get {x y : V} : ∀ {xs ys : List V} {i : Nat}, xs[i]? = some x → ys[i]? = some y → (zipV2 xs ys)[i]? = some [x, y]
  | [], _, _, h, _ => by cases h
  | _ :: _, [], _, _, h => by cases h
  | a :: xs, b :: ys, 0, h, h' => by cases h; cases h'; rfl
  | a :: xs, b :: ys, i + 1, h, h' => zipV2_get (xs := xs) (ys := ys) (i := i) h h'
theorem zipV2_two : ∀ xs ys, ∀ l ∈ zipV2 xs ys, l.length = 2
  | [], ys, l, h => by simp [zipV2] at h
  | _ :: _, [], l, h => by simp [zipV2] at h
  | x :: xs, y :: ys, l, h => by
    rcases List.mem_cons.mp (show l ∈ [x, y] :: zipV2 xs ys from h) with h | h
    · rw [h]; rfl
    · exact zipV2_two xs ys l h
theorem zipV3_len : ∀ xs ys zs, (zipV3 xs ys zs).length = min (min xs.length ys.length) zs.length
  | [], ys, zs => by simp [zipV3]
  | _ :: _, [], _ => by simp [zipV3]
  | _ :: _, _ :: _, [] => by simp [zipV3]
  | x :: xs, y :: ys, z :: zs => by simp [zipV3, zipV3_len xs ys zs]
theorem zipV3_get {x y z : V} : ∀ {xs ys zs : List V} {i : Nat}, xs[i]? = some x → ys[i]? = some y → zs[i]? = some z → (zipV3 xs ys zs)[i]? = some [x, y, z]
  | [], _, _, _, h, _, _ => by cases h
  | _ :: _, [], _, _, _, h, _ => by cases h
  | _ :: _, _ :: _, [], _, _, _, h => by cases h
  | a :: xs, b :: ys, c :: zs, 0, h, h', h'' => by cases h; cases h'; cases h''; rfl
  | a :: xs, b :: ys, c :: zs, i + 1, h, h', h'' => zipV3_get (xs := xs) (ys := ys) (zs := zs) (i := i) h h' h''
theorem zipV3_two : ∀ xs ys zs, ∀ l ∈ zipV3 xs ys zs, l.length = 3
  | [], ys, zs, l, h => by simp [zipV3] at h
  | _ :: _, [], _, l, h => by simp [zipV3] at h
  | _ :: _, _ :: _, [], l, h => by simp [zipV3] at h
  | x :: xs, y :: ys, z :: zs, l, h => by
    rcases List.mem_cons.mp (show l ∈ [x, y, z] :: zipV3 xs ys zs from h) with h | h
    · rw [h]; rfl
    · exact zipV3_two xs ys zs l h
theorem turn_tuples {P : Program} {w : World} {K : PySem.W.Frag} {elts : List Expr} {kk : Nat} {tpos : Pos} {ok : Hp → Prop} {ts : List (List V)} {fp wr : List Addr} {it : Addr} {tn : Nat → Heap → Prop}
    (W : ∀ (X : Cx), X.prog = P → X.w = w → X.K = K → X.calm = true → ∀ (i : Nat) (pins : List (Addr × Obj)) (s : Shared) (σ : L2.St) (H : Hp), Inv X pins σ H s → ok H → tn i s.heap →
      ∃ fp' Pt St Mid, WalksT P w X.A it fp' wr ts.length Pt St Mid ∧ St i s.heap ∧ (∀ h, St (i + 1) h → tn (i + 1) h) ∧ ∀ vals, Pt i vals → ∃ xs, ts[i]? = some xs ∧ Vals xs vals.toList)
    (mem : it ∈ fp) (obj : ∀ i h, tn i h → ∀ b ∈ fp, ∃ o, h.get? b = some o ∧ ∀ v, o.data ≠ .cell v) (keep : ∀ i h h', tn i h → (∀ b ∈ fp, ∀ o, h.get? b = some o → h'.get? b = some o) → tn i h')
    (wf : ∀ b ∈ wr, b ∈ fp) (self : ∀ (A : Around) (i : Nat) (s : Shared) (Q : Value → Shared → Prop) (E : Value → Shared → Prop), tn i s.heap → Q (.ref it) s → wpAny (model P w) A (pyIter (.ref it)) Q E s)
    (sh : ∀ xs ∈ ts, xs.length ≤ sizeLine) : Turn P w K (.Tuple elts kk tpos) (Itp ok ts) fp it tn where
  mem := mem
  obj := obj
  keep := keep
  self := self
  item := by
    intro X hP hw hK hc i pins s σ H E I hf st hg
    obtain ⟨hok, hi⟩ := hg
    obtain ⟨fp', Pt, St, Mid, w1, w2, w3, w4⟩ := W X hP hw hK hc i pins s σ H I hok st
    subst hP hw hK
    refine w1.item i s _ _ hi w2 fun T vals h' tk pt hT ht mid k1 => ⟨_, rfl, w1.go elts kk tpos i T { s with heap := h', toks := tk } _ _ mid fun h'' st' k2 => ?_⟩
    obtain ⟨xs, ex, rx⟩ := w4 vals pt
    have ht' := ht.at fun o e => k2 T o (w1.apart _ _ _ mid) e
    have new : ObjOk X.prog X.w (upd H T (.tup xs)) h'' T (.tup xs) := ⟨sh xs (List.mem_of_getElem? ex), vals.toList, rx, by rw [Array.toArray_toList]; exact ht'⟩
    have I1 : Inv X pins σ (upd H T (.tup xs)) { s with heap := h'', toks := tk } :=
      I.turnedNew (ch := fp) (fun b o hb q => k2 b o (fun z => hb (wf b z)) (k1 b o (fun z => hb (wf b z)) q)) hf hT new
    refine ⟨.ref T, _, I1, rfl, ⟨T, xs, rfl, I.hok.fresh hT, rfl, ex⟩, w3 _ st', fun b hb => ?_⟩
    obtain ⟨o, ho, _⟩ := obj i s.heap st b hb
    rw [upd_ne (Nat.ne_of_lt (Nat.lt_of_lt_of_le (Heap.lt_size ho) hT))]
    exact (hf b hb).1
  done := by
    intro X hP hw hK hc i pins s σ H E I hf st hg
    obtain ⟨hok, hi⟩ := hg
    obtain ⟨fp', Pt, St, Mid, w1, w2, w3, w4⟩ := W X hP hw hK hc i pins s σ H I hok st
    subst hP hw hK
    subst hi
    exact w1.done s _ _ w2 fun h' tk k => ⟨rfl, I.turnedL (ch := fp) (fun b o hb q => k b o (fun z => hb (wf b z)) q) hf⟩

theorem turn_enumA {P : Program} {w : World} {K : PySem.W.Frag} {elts : List Expr} {kk : Nat} {tpos : Pos} {S : Src} {xs : List V} {e it : Addr} (hei : e ≠ it) (hr : it ∉ S.rest) (he : e ∉ S.rest) :
    Turn P w K (.Tuple elts kk tpos) (Itp (fun H => S.At K H xs) (enumV 0 xs)) [e, it] e (fun i h => (∃ old, IsEnum h e it (0 + ((i : Nat) : Int)) old) ∧ S.tn it i h) := by
  refine turn_tuples (wr := [e, it]) ?_ (by simp) ?_ ?_ (fun b hb => hb) (fun A i s Q E h q => let ⟨⟨_, he⟩, _⟩ := h; wpAny_pyIter_enum he q) fun ys hy => ?_
  · intro X hP hw hK hc i pins s σ H I ok tn
    subst hP hw hK
    obtain ⟨items, h1, h2, h3⟩ := Src.items I ok
    obtain ⟨k, h4⟩ := h3 it i tn.2
    have D := Src.draws (prog := X.prog) (w := X.w) (A := X.A.in1) (I.ok.hd hc) S it hr items k
    have W := WalksT.enumFrom 0 D e hei (fun z => by rcases List.mem_cons.mp z with z | z; exact hei z; exact he z) (by simp)
    rw [h1] at W
    rw [enumV_len]
    refine ⟨_, _, _, _, W, ⟨tn.1, h4⟩, fun h q => ⟨q.1, q.2.tn⟩, fun vals ⟨t, x, hp, ev⟩ => ?_⟩
    obtain ⟨y, hy, ry⟩ := h2 i x hp
    refine ⟨_, enumV_get hy, ?_⟩
    subst ev
    exact .cons ⟨t, by simp⟩ (.cons ry .nil)
  · intro i h ⟨⟨old, q⟩, r⟩ b hb
    have e' : b = e ∨ b = it := by simpa using hb
    rcases e' with z | z
    · rw [z]; exact ⟨_, q, fun v q => nomatch q⟩
    · rw [z]; exact Src.tn_obj r
  · intro i h h' ⟨⟨old, q⟩, r⟩ k
    exact ⟨⟨old, k e (by simp) _ q⟩, Src.tn_keep r (k it (by simp))⟩
  · exact (enumV_two _ _ ys hy) ▸ (by decide)

theorem turn_zip2A {P : Program} {w : World} {K : PySem.W.Frag} {elts : List Expr} {kk : Nat} {tpos : Pos} {S1 S2 : Src} {xs ys : List V} {z TI TO i1 i2 : Addr} (D : ZipSep2 z TI TO i1 i2 (i1 :: S1.rest) (i2 :: S2.rest)) (r1 : i1 ∉ S1.rest) (r2 : i2 ∉ S2.rest) :
    Turn P w K (.Tuple elts kk tpos) (Itp (fun H => S1.At K H xs ∧ S2.At K H ys) (zipV2 xs ys)) [z, TI, TO, i1, i2] z
      (fun i h => IsZip h z TI TO .none ∧ IsTupOf2 h TI (.ref i1) (.ref i2) ∧ (∃ a1 a2, IsTupOf2 h TO a1 a2) ∧ S1.tn i1 i h ∧ S2.tn i2 i h) := by
  refine turn_tuples (wr := [z, TO, i1, i2]) ?_ (by simp) ?_ ?_ (fun b hb => ?_) (fun A i s Q E h q => wpAny_pyIter_zip h.1 q) fun l hl => ?_
  · intro X hP hw hK hc i pins s σ H I ok tn
    subst hP hw hK
    obtain ⟨it1, h1, h2, h3⟩ := Src.items I ok.1
    obtain ⟨it2, g1, g2, g3⟩ := Src.items I ok.2
    obtain ⟨k, h4⟩ := h3 i1 i tn.2.2.2.1
    obtain ⟨l, g4⟩ := g3 i2 i tn.2.2.2.2
    have D1 := Src.draws (prog := X.prog) (w := X.w) (A := X.A.in1) (I.ok.hd hc) S1 i1 r1 it1 k
    have D2 := Src.draws (prog := X.prog) (w := X.w) (A := X.A.in1) (I.ok.hd hc) S2 i2 r2 it2 l
    have W := WalksT.zipD2 D D1 D2
    rw [h1, g1] at W
    rw [zipV2_len]
    refine ⟨_, _, _, _, W, ⟨tn.1, tn.2.1, tn.2.2.1, h4, g4⟩, fun h q => ⟨q.1, q.2.1, q.2.2.1, q.2.2.2.1.tn, q.2.2.2.2.tn⟩, fun vals ⟨x, y, hp, hq, ev⟩ => ?_⟩
    obtain ⟨x', hx, rx⟩ := h2 i x hp
    obtain ⟨y', hy, ry⟩ := g2 i y hq
    refine ⟨_, zipV2_get hx hy, ?_⟩
    subst ev
    exact .cons rx (.cons ry .nil)
  · intro i h ⟨q1, q2, ⟨a1, a2, q3⟩, q4, q5⟩ b hb
    have e' : b = z ∨ b = TI ∨ b = TO ∨ b = i1 ∨ b = i2 := by simpa using hb
    rcases e' with e | e | e | e | e
    · rw [e]; exact ⟨_, q1, fun v q => nomatch q⟩
    · rw [e]; exact ⟨_, q2, fun v q => nomatch q⟩
    · rw [e]; exact ⟨_, q3, fun v q => nomatch q⟩
    · rw [e]; exact Src.tn_obj q4
    · rw [e]; exact Src.tn_obj q5
  · intro i h h' ⟨q1, q2, ⟨a1, a2, q3⟩, q4, q5⟩ k
    exact ⟨k z (by simp) _ q1, k TI (by simp) _ q2, ⟨a1, a2, k TO (by simp) _ q3⟩, Src.tn_keep q4 (k i1 (by simp)), Src.tn_keep q5 (k i2 (by simp))⟩
  · simp only [List.mem_cons, List.not_mem_nil, or_false] at hb ⊢
    rcases hb with e | e | e | e <;> simp [e]
  · exact (zipV2_two _ _ l hl) ▸ (by decide)
theorem turn_zip3A {P : Program} {w : World} {K : PySem.W.Frag} {elts : List Expr} {kk : Nat} {tpos : Pos} {S1 S2 S3 : Src} {xs ys zs : List V} {z TI TO i1 i2 i3 : Addr} (D : ZipSep3 z TI TO i1 i2 i3 (i1 :: S1.rest) (i2 :: S2.rest) (i3 :: S3.rest)) (r1 : i1 ∉ S1.rest) (r2 : i2 ∉ S2.rest) (r3 : i3 ∉ S3.rest) :
    Turn P w K (.Tuple elts kk tpos) (Itp (fun H => S1.At K H xs ∧ S2.At K H ys ∧ S3.At K H zs) (zipV3 xs ys zs)) [z, TI, TO, i1, i2, i3] z
      (fun i h => IsZip h z TI TO .none ∧ IsTupOf3 h TI (.ref i1) (.ref i2) (.ref i3) ∧ (∃ a1 a2 a3, IsTupOf3 h TO a1 a2 a3) ∧ S1.tn i1 i h ∧ S2.tn i2 i h ∧ S3.tn i3 i h) := by
  refine turn_tuples (wr := [z, TO, i1, i2, i3]) ?_ (by simp) ?_ ?_ (fun b hb => ?_) (fun A i s Q E h q => wpAny_pyIter_zip h.1 q) fun l hl => ?_
  · intro X hP hw hK hc i pins s σ H I ok tn
    subst hP hw hK
    obtain ⟨it1, h1, h2, h3⟩ := Src.items I ok.1
    obtain ⟨it2, g1, g2, g3⟩ := Src.items I ok.2.1
    obtain ⟨it3, f1, f2, f3⟩ := Src.items I ok.2.2
    obtain ⟨k, h4⟩ := h3 i1 i tn.2.2.2.1
    obtain ⟨l, g4⟩ := g3 i2 i tn.2.2.2.2.1
    obtain ⟨m, f4⟩ := f3 i3 i tn.2.2.2.2.2
    have D1 := Src.draws (prog := X.prog) (w := X.w) (A := X.A.in1) (I.ok.hd hc) S1 i1 r1 it1 k
    have D2 := Src.draws (prog := X.prog) (w := X.w) (A := X.A.in1) (I.ok.hd hc) S2 i2 r2 it2 l
    have D3 := Src.draws (prog := X.prog) (w := X.w) (A := X.A.in1) (I.ok.hd hc) S3 i3 r3 it3 m
    have W := WalksT.zipD3 D D1 D2 D3
    rw [h1, g1, f1] at W
    rw [zipV3_len]
    refine ⟨_, _, _, _, W, ⟨tn.1, tn.2.1, tn.2.2.1, h4, g4, f4⟩, fun h q => ⟨q.1, q.2.1, q.2.2.1, q.2.2.2.1.tn, q.2.2.2.2.1.tn, q.2.2.2.2.2.tn⟩, fun vals ⟨x, y, u, hp, hq, hu, ev⟩ => ?_⟩
    obtain ⟨x', hx, rx⟩ := h2 i x hp
    obtain ⟨y', hy, ry⟩ := g2 i y hq
    obtain ⟨u', hu, ru⟩ := f2 i u hu
    refine ⟨_, zipV3_get hx hy hu, ?_⟩
    subst ev
    exact .cons rx (.cons ry (.cons ru .nil))
  · intro i h ⟨q1, q2, ⟨a1, a2, a3, q3⟩, q4, q5, q6⟩ b hb
    have e' : b = z ∨ b = TI ∨ b = TO ∨ b = i1 ∨ b = i2 ∨ b = i3 := by simpa using hb
    rcases e' with e | e | e | e | e | e
    · rw [e]; exact ⟨_, q1, fun v q => nomatch q⟩
    · rw [e]; exact ⟨_, q2, fun v q => nomatch q⟩
    · rw [e]; exact ⟨_, q3, fun v q => nomatch q⟩
    · rw [e]; exact Src.tn_obj q4
    · rw [e]; exact Src.tn_obj q5
    · rw [e]; exact Src.tn_obj q6
  · intro i h h' ⟨q1, q2, ⟨a1, a2, a3, q3⟩, q4, q5, q6⟩ k
    exact ⟨k z (by simp) _ q1, k TI (by simp) _ q2, ⟨a1, a2, a3, k TO (by simp) _ q3⟩, Src.tn_keep q4 (k i1 (by simp)), Src.tn_keep q5 (k i2 (by simp)), Src.tn_keep q6 (k i3 (by simp))⟩
  · simp only [List.mem_cons, List.not_mem_nil, or_false] at hb ⊢
    rcases hb with e | e | e | e | e <;> simp [e]
  · exact (zipV3_two _ _ _ l hl) ▸ (by decide)
theorem meets_enum1 {v : Value} {o : Obj} {H : Heap → Prop} (B : Begins v o H) :
    Meets (Builtin.«enumerate.__new__» ⟨[.type "enumerate", v], []⟩) (fun _ R s => H s.heap ∧
      R (.ok (.ret (.ref (s.heap.push o).objs.size))) { s with heap := (s.heap.push o).push { cls := .type "enumerate", data := .fields #[.none, .bool false, .ref s.heap.objs.size, rawInt 0, .none, .none] } }) :=
  .of_wp fun prog w A R s h => by
    obtain ⟨hp, g, d, tk, os⟩ := s; obtain ⟨h1, h⟩ := h
    have hsub := sub_enumerate
    have q1 : ∀ {A' : Around} {E : Value → Shared → Prop} {Q : Value → Shared → Prop}, Q (.ref hp.objs.size) ⟨hp.push o, g, d, tk, os⟩ → wpAny (model prog w) A' (pyIter v) Q E ⟨hp, g, d, tk, os⟩ :=
      fun q => B.iter prog w _ _ ⟨hp, g, d, tk, os⟩ _ h1 q
    wp_walk using q1
    refine wpAny_stack_any fun st => wpAny_pure ?_
    split
    · rename_i c _ _ _ _ _
      cases (c == Value.type "enumerate")
      · wp_walk using q1
        exact ⟨_, rfl, h⟩
      · wp_walk using q1
        exact ⟨_, rfl, h⟩
    · wp_walk using q1
      exact ⟨_, rfl, h⟩
theorem call_enum1 {prog : Program} {w : World} {A : Around} {E : Value → Shared → Prop} {s : Shared} {v : Value} {o : Obj} {H : Heap → Prop} {Q : Value → Shared → Prop} (B : Begins v o H) (h1 : H s.heap)
    (h : ∀ h', IsEnum h' (s.heap.objs.size + 1) s.heap.objs.size 0 .none → h'.get? s.heap.objs.size = some o → (∀ b o, s.heap.get? b = some o → h'.get? b = some o) → Q (.ref (s.heap.objs.size + 1)) { s with heap := h' }) :
    wpAny (model prog w) A (call (.type "enumerate") [v]) Q E s := by
  refine callType_new F.called_enumerate (by decide) (F.typeCall_enumerate_1 _) (F.newCall_enumerate_1 _) (fun obj => F.args_object_init_2 obj _) F.entry_enumerate_new (meets_enum1 B) ⟨h1, ?_⟩
  have hz : (s.heap.push o).objs.size = s.heap.objs.size + 1 := Heap.size_push ..
  show _ ∧ _
  rw [hz]
  have he : IsEnum ((s.heap.push o).push { cls := .type "enumerate", data := .fields #[.none, .bool false, .ref s.heap.objs.size, rawInt 0, .none, .none] }) (s.heap.objs.size + 1) s.heap.objs.size 0 .none := by
    have := Heap.get?_push_size (s.heap.push o) (o := { cls := .type "enumerate", data := .fields #[.none, .bool false, .ref s.heap.objs.size, rawInt 0, .none, .none] }) rfl
    rw [hz] at this; exact this
  exact ⟨⟨_, he, rfl⟩, h _ he (Heap.get?_push_of_some _ (Heap.get?_push_size _ B.free)) fun b o x => Heap.get?_push_of_some _ (Heap.get?_push_of_some _ x)⟩
end Mi
end
section
/-! what is walked, of the small language -/
namespace Mi
open PySem L2 PySem.Spec
section
variable {X : Cx}
theorem pi_enumA {e : Expr} {te : TE} {p pos tpos : Pos} {elts : List Expr} {kk : Nat} (hg : Gl X "enumerate") (hm : X.mg "enumerate" = none) (he : PE X e te) (hs : starEach [e] X.env = [(false, eval e X.env)]) :
    PI X (.Tuple elts kk tpos) (.Call (.Name "enumerate" p) [e] [] pos) (fun σ H R => te σ H fun x H1 => ∃ S vs, x = Src.v S ∧ S.At X.K H1 vs ∧ R (Itp (fun H => S.At X.K H vs) (enumV 0 vs)) H1) := by
  refine ⟨fun pins s σ H R I h => ?_⟩
  refine PyProof.Rows.Call_ (ld_blt I hg hm PyProof.Rows.boot_enumerate (PyProof.Rows.callWith_type1 (thn ((pa_cons he pa_nil hs).run pos pins s σ H (fun vs H1 => match vs with | [x] => ∃ S ws, x = Src.v S ∧ S.At X.K H1 ws ∧ R (Itp (fun H => S.At X.K H ws) (enumV 0 ws)) H1 | _ => False) I h) fun us s1 ⟨vs, H1, I1, r1, q1⟩ => ?_) hs rfl))
  cases r1 with
  | nil => exact q1.elim
  | cons r rr =>
    cases rr with
    | cons _ _ => exact q1.elim
    | nil =>
      obtain ⟨S, xs, ex, hq, q⟩ := q1
      rw [ex] at r
      obtain ⟨k, rfl⟩ := Src.rel r
      obtain ⟨Hh, B, hb⟩ := Src.begins I1 hq k
      refine call_enum1 B hb fun h' he' ho hk => wpAny_pyIter_enum he' ?_
      have I2 : Inv X pins σ H1 { s1 with heap := h' } := I1.kept (t' := s1.toks) hk
      have lt := Src.lt I1 hq
      refine ⟨s1.heap.objs.size + 1, [s1.heap.objs.size + 1, s1.heap.objs.size], _, _, H1, rfl, I2, turn_enumA (Nat.succ_ne_self _) (fun z => Nat.lt_irrefl _ (lt _ z)) (fun z => Nat.not_succ_lt_self (lt _ z)), ⟨⟨_, he'⟩, Src.tn_new ho⟩, fun b hb => ?_, q⟩
      have e' : b = s1.heap.objs.size + 1 ∨ b = s1.heap.objs.size := by simpa using hb
      have hle : s1.heap.objs.size ≤ b := by
        rcases e' with z | z
        · rw [z]; exact Nat.le_add_right _ _
        · rw [z]; exact Nat.le_refl _
      exact I1.fpOk hle (I1.hok.fresh hle)
theorem pi_zip2A {e1 e2 : Expr} {ta : TA} {p pos tpos : Pos} {elts : List Expr} {kk : Nat} (hg : Gl X "zip") (hm : X.mg "zip" = none) (ha : PA X [e1, e2] ta)
    (hs : starEach [e1, e2] X.env = (false, eval e1 X.env) :: starEach [e2] X.env) (hpl : (backTo pos (starEach [e2] X.env)).any (·.1) = false) :
    PI X (.Tuple elts kk tpos) (.Call (.Name "zip" p) [e1, e2] [] pos) (fun σ H R => ta σ H fun vs H1 => ∃ S1 S2 xs ys, vs = [Src.v S1, Src.v S2] ∧ S1.At X.K H1 xs ∧ S2.At X.K H1 ys ∧ R (Itp (fun H => S1.At X.K H xs ∧ S2.At X.K H ys) (zipV2 xs ys)) H1) := by
  refine ⟨fun pins s σ H R I h => ?_⟩
  refine PyProof.Rows.Call_ (ld_blt I hg hm PyProof.Rows.boot_zip (PyProof.Rows.callWith_type1 (thn (ha.run pos pins s σ H _ I h) fun us s1 ⟨vs, H1, I1, r1, q1⟩ => ?_) hs hpl))
  obtain ⟨S1, S2, xs, ys, ex, h1, h2, q⟩ := q1
  subst ex
  cases r1 with
  | cons r rr =>
    cases rr with
    | cons r' rr =>
      cases rr
      obtain ⟨k, rfl⟩ := Src.rel r
      obtain ⟨l, rfl⟩ := Src.rel r'
      obtain ⟨_, B1, b1⟩ := Src.begins I1 h1 k
      obtain ⟨_, B2, b2⟩ := Src.begins I1 h2 l
      refine zip_begins2 B1 B2 b1 b2 fun h' hz hTI hTO o1 o2 hsz hk => wpAny_pyIter_zip hz ?_
      have I2 : Inv X pins σ H1 { s1 with heap := h' } := I1.kept (t' := s1.toks) hk
      have l1 := Src.lt I1 h1
      have l2 := Src.lt I1 h2
      refine ⟨s1.heap.objs.size + 4, [s1.heap.objs.size + 4, s1.heap.objs.size + 2, s1.heap.objs.size + 3, s1.heap.objs.size, s1.heap.objs.size + 1], _, _, H1, rfl, I2, turn_zip2A (zip_sep2 l1 l2) (fun z => Nat.lt_irrefl _ (l1 _ z)) (fun z => Nat.not_succ_lt_self (l2 _ z)),
        ⟨hz, hTI, ⟨_, _, hTO⟩, Src.tn_new o1, Src.tn_new o2⟩, fun b hb => ?_, q⟩
      have e' : b = s1.heap.objs.size + 4 ∨ b = s1.heap.objs.size + 2 ∨ b = s1.heap.objs.size + 3 ∨ b = s1.heap.objs.size ∨ b = s1.heap.objs.size + 1 := by simpa using hb
      have hle : s1.heap.objs.size ≤ b := by
        rcases e' with z | z | z | z | z <;> rw [z] <;> first | exact Nat.le_add_right _ _ | exact Nat.le_refl _
      exact I1.fpOk hle (I1.hok.fresh hle)
theorem pi_zip3A {e1 e2 e3 : Expr} {ta : TA} {p pos tpos : Pos} {elts : List Expr} {kk : Nat} (hg : Gl X "zip") (hm : X.mg "zip" = none) (ha : PA X [e1, e2, e3] ta)
    (hs : starEach [e1, e2, e3] X.env = (false, eval e1 X.env) :: starEach [e2, e3] X.env) (hpl : (backTo pos (starEach [e2, e3] X.env)).any (·.1) = false) :
    PI X (.Tuple elts kk tpos) (.Call (.Name "zip" p) [e1, e2, e3] [] pos) (fun σ H R => ta σ H fun vs H1 => ∃ S1 S2 S3 xs ys zs, vs = [Src.v S1, Src.v S2, Src.v S3] ∧ S1.At X.K H1 xs ∧ S2.At X.K H1 ys ∧ S3.At X.K H1 zs ∧
      R (Itp (fun H => S1.At X.K H xs ∧ S2.At X.K H ys ∧ S3.At X.K H zs) (zipV3 xs ys zs)) H1) := by
  refine ⟨fun pins s σ H R I h => ?_⟩
  refine PyProof.Rows.Call_ (ld_blt I hg hm PyProof.Rows.boot_zip (PyProof.Rows.callWith_type1 (thn (ha.run pos pins s σ H _ I h) fun us s1 ⟨vs, H1, I1, r1, q1⟩ => ?_) hs hpl))
  obtain ⟨S1, S2, S3, xs, ys, zs, ex, h1, h2, h3, q⟩ := q1
  subst ex
  cases r1 with
  | cons r rr =>
    cases rr with
    | cons r' rr =>
      cases rr with
      | cons r'' rr =>
        cases rr
        obtain ⟨k, rfl⟩ := Src.rel r
        obtain ⟨l, rfl⟩ := Src.rel r'
        obtain ⟨m, rfl⟩ := Src.rel r''
        obtain ⟨_, B1, b1⟩ := Src.begins I1 h1 k
        obtain ⟨_, B2, b2⟩ := Src.begins I1 h2 l
        obtain ⟨_, B3, b3⟩ := Src.begins I1 h3 m
        refine zip_begins3 B1 B2 B3 b1 b2 b3 fun h' hz hTI hTO o1 o2 o3 hsz hk => wpAny_pyIter_zip hz ?_
        have I2 : Inv X pins σ H1 { s1 with heap := h' } := I1.kept (t' := s1.toks) hk
        have l1 := Src.lt I1 h1
        have l2 := Src.lt I1 h2
        have l3 := Src.lt I1 h3
        refine ⟨s1.heap.objs.size + 5, [s1.heap.objs.size + 5, s1.heap.objs.size + 3, s1.heap.objs.size + 4, s1.heap.objs.size, s1.heap.objs.size + 1, s1.heap.objs.size + 2], _, _, H1, rfl, I2,
          turn_zip3A (zip_sep3 l1 l2 l3) (fun z => Nat.lt_irrefl _ (l1 _ z)) (fun z => Nat.not_succ_lt_self (l2 _ z)) (fun z => absurd (l3 _ z) (by exact fun h => absurd (show s1.heap.objs.size + 2 < s1.heap.objs.size from h) (by omega))),
          ⟨hz, hTI, ⟨_, _, _, hTO⟩, Src.tn_new o1, Src.tn_new o2, Src.tn_new o3⟩, fun b hb => ?_, q⟩
        have e' : b = s1.heap.objs.size + 5 ∨ b = s1.heap.objs.size + 3 ∨ b = s1.heap.objs.size + 4 ∨ b = s1.heap.objs.size ∨ b = s1.heap.objs.size + 1 ∨ b = s1.heap.objs.size + 2 := by simpa using hb
        have hle : s1.heap.objs.size ≤ b := by
          rcases e' with z | z | z | z | z | z <;> rw [z] <;> first | exact Nat.le_add_right _ _ | exact Nat.le_refl _
        exact I1.fpOk hle (I1.hok.fresh hle)
end
section
variable {fa : Nat → Option Addr} {K : PySem.W.Frag} {F H : Hp} {ow : Ow}
theorem src_of {d : D} {v : V} {xs : List D} (h : Rep fa K F d v) (e : d.items = some xs) : ∃ S vs, v = Src.v S ∧ RepL fa K F xs vs ∧ ∀ H', Sub F H' → S.At K H' vs := by
  cases h with
  | lst h1 r1 => cases e; exact ⟨.l _, _, rfl, r1, fun H' sb => .inl (Rd.sub sb h1)⟩
  | scr h1 r1 => cases e; exact ⟨.l _, _, rfl, r1, fun H' sb => SqL.sub sb h1⟩
  | tup h1 r1 => cases e; exact ⟨.t _, _, rfl, r1, fun H' sb => SqT.sub sb h1⟩
  | str hk =>
    cases e
    refine ⟨.s _, _, rfl, ?_, fun H' sb => rfl⟩
    have : ∀ l : List Nat, (∀ c ∈ l, c < 0x110000) → RepL fa K F (l.map fun c => .str ⟨#[c]⟩) (l.map fun c => .str ⟨#[c]⟩) := by
      intro l
      induction l with
      | nil => intro _; exact .nil
      | cons c l ih => intro h; exact .cons (.str (by rw [strOk_iff]; intro c' hc'; have e : c' = c := by simpa using hc'
                                                      rw [e]; exact h c (by simp))) (ih fun c' hc' => h c' (by simp [hc']))
    exact this _ (strOk_iff.mp hk)
  | _ => cases e
/-- pairs that come anew -/
theorem wk_pairs {ok : Hp → Prop} {ts : List (List V)} {xs : List D} (hok : ∀ (H' F' : Hp) (ow' : Ow), Sub F F' → Sub F' H' → ok H') (hl : xs.length = ts.length) (hx : ∀ (i : Nat) (vs : List V), ts[i]? = some vs → ∃ ds : List D, xs[i]? = some (D.tup ds) ∧ RepL fa K F ds vs) : Wk fa K (Itp ok ts) xs H F ow := by
  refine ⟨fun H' F' ow' ev sb i d hi => ⟨⟨hok H' F' ow' ev sb, by rw [← hl]; exact (List.getElem?_eq_some_iff.mp hi).1⟩, ?_⟩, fun H' F' ow' ev sb => ⟨hok H' F' ow' ev sb, hl⟩⟩
  rintro x H'' ⟨T, vs, rfl, hT, rfl, hv⟩
  obtain ⟨ds, hd, r⟩ := hx i vs hv
  rw [hi] at hd
  cases hd
  have gr : Grow F' H' (upd F' T (.tup vs)) (upd H' T (.tup vs)) := .laid sb hT
  exact ⟨_, gr, .tup (.inl (.inl upd_same)) (r.mono (ev.trans gr.mono))⟩
theorem enumD_len (xs : List D) : ∀ n, (enumD n xs).length = xs.length := by
  induction xs with
  | nil => intro n; rfl
  | cons x xs ih => intro n; simp [enumD, ih]
theorem enum_rep {xs : List D} {vs : List V} (h : RepL fa K F xs vs) : ∀ (n i : Nat) (ws : List V), (enumV n vs)[i]? = some ws → ∃ ds : List D, (enumD n xs)[i]? = some (D.tup ds) ∧ RepL fa K F ds ws := by
  induction xs generalizing vs with
  | nil => cases h; intro n i ws h; cases h
  | cons x xs ih =>
    cases h with
    | cons r rr =>
      intro n i ws h
      cases i with
      | zero => cases h; exact ⟨_, rfl, .cons (.int _) (.cons r .nil)⟩
      | succ i => exact ih rr (n + 1) i ws h
theorem zip2_rep : ∀ {xs ys : List D} {vs us : List V}, RepL fa K F xs vs → RepL fa K F ys us → (zipD xs ys).length = (zipV2 vs us).length ∧ ∀ (i : Nat) (ws : List V), (zipV2 vs us)[i]? = some ws → ∃ ds : List D, (zipD xs ys)[i]? = some (D.tup ds) ∧ RepL fa K F ds ws
  | _, _, _, _, .nil, _ => ⟨by simp [zipD, zipV2], fun i ws h => by simp [zipV2] at h⟩
  | _, _, _, _, .cons _ _, .nil => ⟨by simp [zipD, zipV2], fun i ws h => by simp [zipV2] at h⟩
  | _, _, _, _, .cons r rr, .cons q qq => by
    obtain ⟨a, b⟩ := zip2_rep rr qq
    refine ⟨by simp [zipD, zipV2, a], fun i ws h => ?_⟩
    cases i with
    | zero => cases h; exact ⟨_, rfl, .cons r (.cons q .nil)⟩
    | succ i => exact b i ws h
theorem zip3_rep : ∀ {xs ys zs : List D} {vs us ts : List V}, RepL fa K F xs vs → RepL fa K F ys us → RepL fa K F zs ts → (zipD3 xs ys zs).length = (zipV3 vs us ts).length ∧ ∀ (i : Nat) (ws : List V), (zipV3 vs us ts)[i]? = some ws → ∃ ds : List D, (zipD3 xs ys zs)[i]? = some (D.tup ds) ∧ RepL fa K F ds ws
  | _, _, _, _, _, _, .nil, _, _ => ⟨by simp [zipD3, zipV3], fun i ws h => by simp [zipV3] at h⟩
  | _, _, _, _, _, _, .cons _ _, .nil, _ => ⟨by simp [zipD3, zipV3], fun i ws h => by simp [zipV3] at h⟩
  | _, _, _, _, _, _, .cons _ _, .cons _ _, .nil => ⟨by simp [zipD3, zipV3], fun i ws h => by simp [zipV3] at h⟩
  | _, _, _, _, _, _, .cons r rr, .cons q qq, .cons p pp => by
    obtain ⟨a, b⟩ := zip3_rep rr qq pp
    refine ⟨by simp [zipD3, zipV3, a], fun i ws h => ?_⟩
    cases i with
    | zero => cases h; exact ⟨_, rfl, .cons r (.cons q (.cons p .nil))⟩
    | succ i => exact b i ws h
end
end Mi
end
section
/-! what is walked: sound -/
namespace Mi
open PySem L2 PySem.Spec
section
variable {lev : Nat} {fa : Nat → Option Addr} {xr : XR} {m : Nm} {c : Cfg} {sc : Scope} {W : WX} {X : Cx} {e tg : Expr} {F H : Hp} {ow : Ow} {σ : St}
theorem glC_bu {x : Str} (C : Ctx lev fa xr m c sc W X) (hg : glC m.G sc x .bu = true) : Gl X x ∧ X.mg x = none := by
  unfold glC at hg
  simp only [Bool.and_eq_true, decide_eq_true_eq] at hg
  obtain ⟨⟨g1, g2⟩, g3⟩ := hg
  exact ⟨C.glo _ g1, C.bu _ g2⟩
theorem wk_rng {K : PySem.W.Frag} {lo : Int} {n : Nat} : Wk fa K (Itr lo n) ((List.range n).map fun k => .int (lo + (k : Nat))) H F ow :=
  wk_range (by simp) fun i hi => by rw [List.getElem?_map, range_get n i hi]; rfl
theorem wk_rng0 {K : PySem.W.Frag} {n : Nat} : Wk fa K (Itr 0 n) ((List.range n).map fun k => .int (k : Nat)) H F ow :=
  wk_range (by simp) fun i hi => by rw [List.getElem?_map, range_get n i hi]; simp
theorem esC_two {a a' : M} {f f' : CE} {env : En} {β : Type} (g : List D → En → R β) : (esC [(false, a, f), (false, a', f')] env).bind g = (f env).bind fun d e => (f' e).bind fun d' e => g [d, d'] e := by
  show ((f env).bind fun d e => ((f' e).bind fun d' e => .ok [d'] e).bind fun ds e => .ok (d :: ds) e).bind g = _
  rw [R.bind_assoc]
  congr 1
  funext d e
  rw [R.bind_assoc, R.bind_assoc]
  rfl
theorem esC_three {a a' a'' : M} {f f' f'' : CE} {env : En} {β : Type} (g : List D → En → R β) : (esC [(false, a, f), (false, a', f'), (false, a'', f'')] env).bind g = (f env).bind fun d e => (f' e).bind fun d' e => (f'' e).bind fun d'' e => g [d, d', d''] e := by
  show ((f env).bind fun d e => (esC [(false, a', f'), (false, a'', f'')] e).bind fun ds e => .ok (d :: ds) e).bind g = _
  rw [R.bind_assoc]
  congr 1
  funext d e
  rw [R.bind_assoc, esC_two]
  rfl
theorem sni_rng1 (C : Ctx lev fa xr m c sc W X) {a : M} {f : CE} {e1 : Expr} {p pos : Pos} (hg : glC m.G sc "range" .bu = true) (ha : PE X e1 (tE fa X.K xr false W f)) (hs : ∀ es, starEach (e1 :: es) X.env = (false, eval e1 X.env) :: starEach es X.env) :
    PI X tg (.Call (.Name "range" p) [e1] [] pos) (tI fa X.K xr W (iRng [(false, a, f)])) := by
  obtain ⟨g1, g2⟩ := glC_bu C hg
  refine (pi_range1 g1 g2 (pa_cons ha pa_nil (hs [])) (hs [])).imp fun σ H R ⟨F, ow, env, s, g⟩ => ⟨F, ow, env, s, ?_⟩
  have this : iRng [(false, a, f)] env = (f env).bind fun d e => lift (rngD [d]) e := Mi.R.bind_assoc ..
  rw [this] at g
  refine g.bind.mono fun d e1 H1 F1 ow1 ev1 s1 g1 v hv => ?_
  obtain ⟨xs, ex, g2⟩ := g1.lift
  have g3 := g2.ok s1
  rcases rngD_one ex with ⟨j, q1, q2, q3, q4⟩ | ⟨i, j, q1, q2, q3⟩
  · cases q1
    have hv := hv.rep (fr := false)
    cases hv
    subst q4
    exact ⟨j, rfl, q2, q3, g3 _ wk_rng0⟩
  · cases q1
theorem sni_rng2 (C : Ctx lev fa xr m c sc W X) {a a' : M} {f f' : CE} {e1 e2 : Expr} {p pos : Pos} (hg : glC m.G sc "range" .bu = true) (ha : PE X e1 (tE fa X.K xr false W f)) (hb : PE X e2 (tE fa X.K xr false W f'))
    (hs : ∀ es, starEach (e1 :: es) X.env = (false, eval e1 X.env) :: starEach es X.env) (hs2 : ∀ es, starEach (e2 :: es) X.env = (false, eval e2 X.env) :: starEach es X.env) :
    PI X tg (.Call (.Name "range" p) [e1, e2] [] pos) (tI fa X.K xr W (iRng [(false, a, f), (false, a', f')])) := by
  obtain ⟨g1, g2⟩ := glC_bu C hg
  refine (pi_range2 g1 g2 (pa_cons ha (pa_cons hb pa_nil (hs2 [])) (hs [e2])) (by rw [hs, hs2]; rfl) (hs2 [])).imp fun σ H R ⟨F, ow, env, s, g⟩ => ⟨F, ow, env, s, ?_⟩
  have this : iRng [(false, a, f), (false, a', f')] env = (f env).bind fun d e => (f' e).bind fun d' e => lift (rngD [d, d']) e := esC_two ..
  rw [this] at g
  refine g.bind.mono fun d e1 H1 F1 ow1 ev1 s1 g1 v hv => ⟨F1, ow1, e1, s1, ?_⟩
  refine g1.bind.mono fun d' e2 H2 F2 ow2 ev2 s2 g2 v' hv' => ?_
  obtain ⟨xs, ex, g2⟩ := g2.lift
  have g3 := g2.ok s2
  have hv := hv.rep (fr := false)
  have hv' := hv'.rep (fr := false)
  rcases rngD_one ex with ⟨j, q1, q2, q3, q4⟩ | ⟨i, j, q1, q2, q3⟩
  · cases q1
  · cases q1
    cases hv
    cases hv'
    subst q3
    exact ⟨i, j, rfl, q2, g3 _ wk_rng⟩
theorem sni_enum (C : Ctx lev fa xr m c sc W X) {f : CE} {e1 : Expr} {elts : List Expr} {kk : Nat} {tpos : Pos} {p pos : Pos} (hg : glC m.G sc "enumerate" .bu = true) (ha : PE X e1 (tE fa X.K xr false W f)) (hs : ∀ es, starEach (e1 :: es) X.env = (false, eval e1 X.env) :: starEach es X.env) :
    PI X (.Tuple elts kk tpos) (.Call (.Name "enumerate" p) [e1] [] pos) (tI fa X.K xr W (iEnum f)) := by
  obtain ⟨g1, g2⟩ := glC_bu C hg
  refine (pi_enumA g1 g2 ha (hs [])).imp fun σ H R ⟨F, ow, env, s, g⟩ => ⟨F, ow, env, s, ?_⟩
  have g : Good fa X.K xr W σ H F ow ((f env).bind fun d e => lift (d.items.map (enumD 0)) e) _ := g
  refine g.bind.mono fun d e1 H1 F1 ow1 ev1 s1 g1 v hv => ?_
  obtain ⟨xs, ex, g2⟩ := g1.lift
  have g3 := g2.ok s1
  cases q : d.items with
  | none => rw [q] at ex; cases ex
  | some ys =>
    rw [q] at ex
    cases ex
    obtain ⟨S, vs, rfl, r, at'⟩ := src_of (hv.rep (fr := false)) q
    refine ⟨S, vs, rfl, at' _ s1.sub, g3 _ (wk_pairs (fun H' F' ow' ev sb => at' _ (ev.trans sb)) ?_ (enum_rep r 0))⟩
    rw [enumD_len, enumV_len, r.length]
theorem zipA_one {ds xs : List D} (h : zipA ds = some xs) : (∃ x y xs' ys', ds = [x, y] ∧ x.items = some xs' ∧ y.items = some ys' ∧ xs = zipD xs' ys') ∨
    (∃ x y z xs' ys' zs', ds = [x, y, z] ∧ x.items = some xs' ∧ y.items = some ys' ∧ z.items = some zs' ∧ xs = zipD3 xs' ys' zs') := by
  unfold zipA at h
  split at h
  · rename_i x y
    split at h
    · rename_i xs' hx
      split at h
      · rename_i ys' hy
        cases h
        exact .inl ⟨x, y, xs', ys', rfl, hx, hy, rfl⟩
      · cases h
    · cases h
  · rename_i x y z
    split at h
    · rename_i xs' hx
      split at h
      · rename_i ys' hy
        split at h
        · rename_i zs' hz
          cases h
          exact .inr ⟨x, y, z, xs', ys', zs', rfl, hx, hy, hz, rfl⟩
        · cases h
      · cases h
    · cases h
  · cases h
theorem zip2_at {xs : List D} {x y : D} (h : zipA [x, y] = some xs) : ∃ xs' ys', x.items = some xs' ∧ y.items = some ys' ∧ xs = zipD xs' ys' := by
  rcases zipA_one h with ⟨x', y', xs', ys', q, h1, h2, h3⟩ | ⟨x', y', z', xs', ys', zs', q, _⟩
  · cases q; exact ⟨xs', ys', h1, h2, h3⟩
  · cases q
theorem zip3_at {xs : List D} {x y z : D} (h : zipA [x, y, z] = some xs) : ∃ xs' ys' zs', x.items = some xs' ∧ y.items = some ys' ∧ z.items = some zs' ∧ xs = zipD3 xs' ys' zs' := by
  rcases zipA_one h with ⟨x', y', xs', ys', q, _⟩ | ⟨x', y', z', xs', ys', zs', q, h1, h2, h3, h4⟩
  · cases q
  · cases q; exact ⟨xs', ys', zs', h1, h2, h3, h4⟩
theorem sni_zip2 (C : Ctx lev fa xr m c sc W X) {a a' : M} {f f' : CE} {e1 e2 : Expr} {elts : List Expr} {kk : Nat} {tpos : Pos} {p pos : Pos} (hg : glC m.G sc "zip" .bu = true) (ha : PE X e1 (tE fa X.K xr false W f)) (hb : PE X e2 (tE fa X.K xr false W f'))
    (hs : ∀ es, starEach (e1 :: es) X.env = (false, eval e1 X.env) :: starEach es X.env) (hs2 : ∀ es, starEach (e2 :: es) X.env = (false, eval e2 X.env) :: starEach es X.env) :
    PI X (.Tuple elts kk tpos) (.Call (.Name "zip" p) [e1, e2] [] pos) (tI fa X.K xr W (iZip [(false, a, f), (false, a', f')])) := by
  obtain ⟨g1, g2⟩ := glC_bu C hg
  refine (pi_zip2A g1 g2 (pa_cons ha (pa_cons hb pa_nil (hs2 [])) (hs [e2])) (hs [e2]) (by rw [hs2]; rfl)).imp fun σ H R ⟨F, ow, env, s, g⟩ => ⟨F, ow, env, s, ?_⟩
  have this : iZip [(false, a, f), (false, a', f')] env = (f env).bind fun d e => (f' e).bind fun d' e => lift (zipA [d, d']) e := esC_two ..
  rw [this] at g
  refine g.bind.mono fun d e1 H1 F1 ow1 ev1 s1 g1 v hv => ⟨F1, ow1, e1, s1, ?_⟩
  refine g1.bind.mono fun d' e2 H2 F2 ow2 ev2 s2 g2 v' hv' => ?_
  obtain ⟨xs, ex, g2⟩ := g2.lift
  have g3 := g2.ok s2
  obtain ⟨xs', ys', h1, h2, h3⟩ := zip2_at ex
  obtain ⟨S1, vs, rfl, r1, a1⟩ := src_of ((hv.rep (fr := false)).mono ev2.mono) h1
  obtain ⟨S2, us, rfl, r2, a2⟩ := src_of (hv'.rep (fr := false)) h2
  subst h3
  obtain ⟨l, z⟩ := zip2_rep r1 r2
  exact ⟨S1, S2, vs, us, rfl, a1 _ s2.sub, a2 _ s2.sub, g3 _ (wk_pairs (fun H' F' ow' ev sb => ⟨a1 _ (ev.trans sb), a2 _ (ev.trans sb)⟩) l z)⟩
theorem sni_zip3 (C : Ctx lev fa xr m c sc W X) {a a' a'' : M} {f f' f'' : CE} {e1 e2 e3 : Expr} {elts : List Expr} {kk : Nat} {tpos : Pos} {p pos : Pos} (hg : glC m.G sc "zip" .bu = true) (ha : PE X e1 (tE fa X.K xr false W f)) (hb : PE X e2 (tE fa X.K xr false W f')) (hc : PE X e3 (tE fa X.K xr false W f''))
    (hs : ∀ es, starEach (e1 :: es) X.env = (false, eval e1 X.env) :: starEach es X.env) (hs2 : ∀ es, starEach (e2 :: es) X.env = (false, eval e2 X.env) :: starEach es X.env) (hs3 : ∀ es, starEach (e3 :: es) X.env = (false, eval e3 X.env) :: starEach es X.env) :
    PI X (.Tuple elts kk tpos) (.Call (.Name "zip" p) [e1, e2, e3] [] pos) (tI fa X.K xr W (iZip [(false, a, f), (false, a', f'), (false, a'', f'')])) := by
  obtain ⟨g1, g2⟩ := glC_bu C hg
  refine (pi_zip3A g1 g2 (pa_cons ha (pa_cons hb (pa_cons hc pa_nil (hs3 [])) (hs2 [e3])) (hs [e2, e3])) (hs [e2, e3]) (by rw [hs2, hs3]; rfl)).imp fun σ H R ⟨F, ow, env, s, g⟩ => ⟨F, ow, env, s, ?_⟩
  have this : iZip [(false, a, f), (false, a', f'), (false, a'', f'')] env = (f env).bind fun d e => (f' e).bind fun d' e => (f'' e).bind fun d'' e => lift (zipA [d, d', d'']) e := esC_three ..
  rw [this] at g
  refine g.bind.mono fun d e1 H1 F1 ow1 ev1 s1 g1 v hv => ⟨F1, ow1, e1, s1, ?_⟩
  refine g1.bind.mono fun d' e2 H2 F2 ow2 ev2 s2 g2 v' hv' => ⟨F2, ow2, e2, s2, ?_⟩
  refine g2.bind.mono fun d'' e3 H3 F3 ow3 ev3 s3 g2 v'' hv'' => ?_
  obtain ⟨xs, ex, g2⟩ := g2.lift
  have g3 := g2.ok s3
  obtain ⟨xs', ys', zs', h1, h2, h3, h4⟩ := zip3_at ex
  obtain ⟨S1, vs, rfl, r1, a1⟩ := src_of ((hv.rep (fr := false)).mono (ev2.mono.trans ev3.mono)) h1
  obtain ⟨S2, us, rfl, r2, a2⟩ := src_of ((hv'.rep (fr := false)).mono ev3.mono) h2
  obtain ⟨S3, ts, rfl, r3, a3⟩ := src_of (hv''.rep (fr := false)) h3
  subst h4
  obtain ⟨l, z⟩ := zip3_rep r1 r2 r3
  exact ⟨S1, S2, S3, vs, us, ts, rfl, a1 _ s3.sub, a2 _ s3.sub, a3 _ s3.sub, g3 _ (wk_pairs (fun H' F' ow' ev sb => ⟨a1 _ (ev.trans sb), a2 _ (ev.trans sb), a3 _ (ev.trans sb)⟩) l z)⟩
end
end Mi
end
section
/-! comprehensions -/
namespace Mi
open PySem L2 PySem.Spec
/-! ### slots -/
def wipeL (e : En) : List Nat → En | [] => e | v :: vs => (wipeL e vs).set v .un
theorem wipeE_eq {β : Type} {e : En} {k : En → β} : ∀ {vs : List Nat}, wipeE vs e k = k (wipeL e vs)
  | [] => rfl
  | v :: vs => by
    show wipeE vs e (fun e => st e v .un k) = _
    rw [wipeE_eq (vs := vs), st_eq]
    rfl
noncomputable def backL (e₀ e : En) : List Nat → En | [] => e | v :: vs => (backL e₀ e vs).set v (gt e₀ v)
theorem backE_eq {β : Type} {e₀ e : En} {k : En → β} : ∀ {vs : List Nat}, backE e₀ vs e k = k (backL e₀ e vs)
  | [] => rfl
  | v :: vs => by
    show backE e₀ vs e (fun e => st e v (gt e₀ v) k) = _
    rw [backE_eq (vs := vs), st_eq]
    rfl
theorem wipeL_len {e : En} : ∀ {vs : List Nat}, (wipeL e vs).length = e.length
  | [] => rfl
  | v :: vs => by unfold wipeL; rw [List.length_set, wipeL_len]
theorem backL_len {e₀ e : En} : ∀ {vs : List Nat}, (backL e₀ e vs).length = e.length
  | [] => rfl
  | v :: vs => by unfold backL; rw [List.length_set, backL_len]
theorem wipeL_get {e : En} {j : Nat} {p : P} : ∀ {vs : List Nat}, (wipeL e vs)[j]? = some p → (j ∈ vs ∧ p = .un) ∨ (j ∉ vs ∧ e[j]? = some p)
  | [], h => .inr ⟨by simp, h⟩
  | v :: vs, h => by
    unfold wipeL at h
    by_cases hj : v = j
    · subst hj
      have hl : v < (wipeL e vs).length := by
        cases Nat.lt_or_ge v (wipeL e vs).length with
        | inl h' => exact h'
        | inr h' => rw [List.getElem?_eq_none (by simpa using h')] at h; cases h
      rw [List.getElem?_set_self hl] at h
      cases h
      exact .inl ⟨List.mem_cons_self, rfl⟩
    · rw [List.getElem?_set_ne hj] at h
      rcases wipeL_get h with ⟨a, b⟩ | ⟨a, b⟩
      · exact .inl ⟨List.mem_cons_of_mem _ a, b⟩
      · exact .inr ⟨fun z => by rcases List.mem_cons.mp z with z | z; exact hj z.symm; exact a z, b⟩
theorem backL_get {e₀ e : En} {j : Nat} {p : P} : ∀ {vs : List Nat}, (backL e₀ e vs)[j]? = some p → (j ∈ vs ∧ p = gt e₀ j) ∨ (j ∉ vs ∧ e[j]? = some p)
  | [], h => .inr ⟨by simp, h⟩
  | v :: vs, h => by
    unfold backL at h
    by_cases hj : v = j
    · subst hj
      have hl : v < (backL e₀ e vs).length := by
        cases Nat.lt_or_ge v (backL e₀ e vs).length with
        | inl h' => exact h'
        | inr h' => rw [List.getElem?_eq_none (by simpa using h')] at h; cases h
      rw [List.getElem?_set_self hl] at h
      cases h
      exact .inl ⟨List.mem_cons_self, rfl⟩
    · rw [List.getElem?_set_ne hj] at h
      rcases backL_get h with ⟨a, b⟩ | ⟨a, b⟩
      · exact .inl ⟨List.mem_cons_of_mem _ a, b⟩
      · exact .inr ⟨fun z => by rcases List.mem_cons.mp z with z | z; exact hj z.symm; exact a z, b⟩
theorem wipe_in {σ : St} {j : Nat} : ∀ {vs : List Nat}, j ∈ vs → j < σ.length → (wipe σ vs)[j]? = some none
  | [], h, _ => by cases h
  | v :: vs, h, hl => by
    unfold wipe
    by_cases hj : v = j
    · subst hj; rw [List.getElem?_set_self (by rw [wipe_length]; exact hl)]
    · rw [List.getElem?_set_ne hj]
      exact wipe_in (by rcases List.mem_cons.mp h with z | z; exact absurd z.symm hj; exact z) hl
theorem wipe_ext {σ τ : St} {vs : List Nat} (hl : σ.length = τ.length) (h : ∀ j, j ∉ vs → σ[j]? = τ[j]?) : wipe σ vs = wipe τ vs := by
  refine List.ext_getElem? fun j => ?_
  by_cases hj : j ∈ vs
  · by_cases hlt : j < σ.length
    · rw [wipe_in hj hlt, wipe_in hj (by omega)]
    · rw [List.getElem?_eq_none (by rw [wipe_length]; omega), List.getElem?_eq_none (by rw [wipe_length]; omega)]
  · rw [wipe_out hj, wipe_out hj, h j hj]
theorem wipe_wipe {σ : St} {vs : List Nat} : wipe (wipe σ vs) vs = wipe σ vs := wipe_ext (by rw [wipe_length]) fun j hj => by rw [wipe_out hj]
theorem wipe_set {σ : St} {vs : List Nat} {i : Nat} {x : Option V} (h : i ∈ vs) : wipe (σ.set i x) vs = wipe σ vs := wipe_ext (by simp) fun j hj => by
  rw [List.getElem?_set_ne (fun e : i = j => hj (e ▸ h))]
section
variable {fa : Nat → Option Addr} {K : PySem.W.Frag} {H F H1 F1 : Hp} {ow ow1 : Ow} {e e₁ : En} {σ τ : St} {vs : List Nat} {D : Addr} {o : HO}
theorem SlotOk.plain {i : Nat} {p : P} {u : Option V} (s : SlotOk fa K H1 F1 ow1 i p u) (hp : plainP p = true) (mono : Sub F1 F) : SlotOk fa K H F ow i p u := by
  cases p with
  | un => trivial
  | val d => obtain ⟨v, r1, r2⟩ := s; exact ⟨v, r1, r2.mono mono⟩
  | _ => cases hp
theorem Gst.wipe (s : Gst fa K H F ow e σ) (h : L2.wipe σ vs = L2.wipe τ vs) : Gst fa K H F ow (wipeL e vs) (L2.wipe τ vs) := by
  refine ⟨s.sub, s.own, by rw [wipeL_len, s.len, ← wipe_length σ vs, h], fun j p hp => ?_⟩
  have hl : j < (L2.wipe τ vs).length := by rw [← h, wipe_length, ← s.len, ← wipeL_len (e := e) (vs := vs)]; exact (List.getElem?_eq_some_iff.mp hp).1
  rcases wipeL_get hp with ⟨_, rfl⟩ | ⟨a, b⟩
  · exact ⟨_, List.getElem?_eq_getElem hl, trivial⟩
  · obtain ⟨u, g1, g2⟩ := s.slot j p b
    exact ⟨u, by rw [← h, wipe_out a]; exact g1, g2⟩
theorem Gst.back (s1 : Gst fa K H1 F1 ow1 e₁ σ) (hp : ∀ i ∈ vs, plainP (gt e₁ i) = true) (ev : Evo H1 F1 ow1 H F ow) (s : Gst fa K H F ow (wipeL e vs) (L2.wipe σ vs)) : Gst fa K H F ow (backL e₁ e vs) σ := by
  have hl : e.length = σ.length := by have := s.len; rwa [wipeL_len, wipe_length] at this
  refine ⟨s.sub, s.own, by rw [backL_len, hl], fun j p hp' => ?_⟩
  have hlt : j < σ.length := by rw [← hl, ← backL_len (e₀ := e₁) (e := e) (vs := vs)]; exact (List.getElem?_eq_some_iff.mp hp').1
  rcases backL_get hp' with ⟨a, rfl⟩ | ⟨a, b⟩
  · have hq : e₁[j]? = some (gt e₁ j) := by rw [get_gt, List.getElem?_eq_getElem (by rw [s1.len]; exact hlt)]; rfl
    obtain ⟨u, g1, g2⟩ := s1.slot j _ hq
    exact ⟨u, g1, g2.plain (hp j a) ev.mono⟩
  · have hw : (wipeL e vs)[j]? = some p := by
      cases q : (wipeL e vs)[j]? with
      | none => rw [List.getElem?_eq_none_iff, wipeL_len] at q; omega
      | some p' =>
        rcases wipeL_get q with ⟨z, _⟩ | ⟨_, z⟩
        · exact absurd z a
        · rw [b] at z; exact z.symm
    obtain ⟨u, g1, g2⟩ := s.slot j p hw
    exact ⟨u, by rw [wipe_out a] at g1; exact g1, g2⟩
theorem Gst.over (s : Gst fa K H F ow e σ) (hF : F D = none) (hO : ow D = none) : Gst fa K (upd H D o) F ow e σ := by
  have nD : ∀ b j, ow b = some j → b ≠ D := fun b j h z => by subst z; rw [hO] at h; cases h
  refine ⟨fun b u h => ?_, fun b j h => ⟨(s.own b j h).1, by rw [upd_ne (nD b j h)]; exact (s.own b j h).2⟩, s.len, fun j p h => ?_⟩
  · have : b ≠ D := fun z => by subst z; rw [hF] at h; cases h
    rw [upd_ne this]; exact s.sub b u h
  · obtain ⟨u, g1, g2⟩ := s.slot j p h
    exact ⟨u, g1, g2.move Sub.refl fun b z w h1 h2 h3 => ⟨h1, h2, by rw [upd_ne (nD b _ h1)]; exact h3⟩⟩
theorem Evo.over (ev : Evo H1 F1 ow1 H F ow) (h : H1 D = none) : Evo H1 F1 ow1 (upd H D o) F ow := by
  refine ⟨ev.mono, fun a u q n => ?_, fun a q => ?_, ev.newF, ev.newO, ev.newM⟩
  · have : a ≠ D := fun z => by subst z; rw [h] at q; cases q
    rw [upd_ne this]; exact ev.keep a u q n
  · by_cases ha : a = D
    · subst ha; exact absurd h q
    · rw [upd_ne ha]; exact ev.dom a q
end
/-! ### targets -/
def bindI (e : En) : List Nat → List D → Option En
  | [], ds => match ds with | [] => some e | _ => none
  | i :: is, ds => match ds with | d :: ds => bindI (e.set i (.val d)) is ds | [] => none
theorem bindIs_eq {β : Type} {k : En → β} {no : β} : ∀ {is : List Nat} {ds : List D} {e : En}, bindIs is ds e k no = match bindI e is ds with | some e' => k e' | none => no
  | [], [], e => rfl
  | [], _ :: _, e => rfl
  | i :: is, [], e => rfl
  | i :: is, d :: ds, e => by
    show st e i (.val d) (fun e => bindIs is ds e k no) = _
    rw [st_eq, bindIs_eq (is := is)]
    rfl
def bindL (e : En) (tg : Tg) (d : D) : Option En := match tg with
  | .n i => some (e.set i (.val d))
  | .t is => match d with | .tup ds => bindI e is ds | .lst ds => bindI e is ds | _ => none
theorem bindTg_eq {β : Type} {e : En} {tg : Tg} {d : D} {k : En → β} {no : β} : bindTg e tg d k no = match bindL e tg d with | some e' => k e' | none => no := by
  unfold bindTg bindL
  cases tg with
  | n i => exact st_eq
  | t is =>
    cases d with
    | tup ds => exact bindIs_eq
    | lst ds => exact bindIs_eq
    | _ => rfl
def tgsR : List Nat → TGs | [] => gNil | i :: is => gCons (gName i) (tgsR is)
/-- several names at once, from a tuple or a list -/
def gSeq (K : PySem.W.Frag) (n : Nat) (t : TGs) : TG := fun v σ H Q => gTup K n t v σ H Q ∨ gUnl K n t v σ H Q
theorem pg_seq {X : Cx} {pos : Pos} {es : List Expr} {k : Nat} {t : TGs} {n : Nat} (hc : X.calm = true) (h : PGs X es t) (hn : (assignEach es X.env).length = n) (hst : (assignEach es X.env).findIdx? (·.1) = none) : PG X (.Tuple es k pos) (gSeq X.K n t) :=
  ⟨fun pins s σ H v u Q I r hw => hw.elim (fun hw => (pg_tup hc h hn hst).run pins s σ H v u Q I r hw) fun hw => (pg_unl hc h hn hst).run pins s σ H v u Q I r hw⟩
def tgR (K : PySem.W.Frag) : Tg → TG | .n i => gName i | .t is => gSeq K is.length (tgsR is)
section
variable {fa : Nat → Option Addr} {K : PySem.W.Frag} {H F : Hp} {ow : Ow}
theorem tgs_sound : ∀ {is : List Nat} {ds : List D} {vs : List V} {e e' : En} {σ : St} {Q : St → Hp → Prop} (s : Gst fa K H F ow e σ) (r : RepL fa K F ds vs) (h : bindI e is ds = some e')
    (q : ∀ σ', Gst fa K H F ow e' σ' → (∀ own : List Nat, (∀ i ∈ is, i ∈ own) → wipe σ' own = wipe σ own) → Q σ' H), tgsR is vs σ H Q ∧ vs.length = is.length
  | [], ds, vs, e, e', σ, Q, s, r, h, q => by
    cases r with
    | nil => cases h; exact ⟨⟨rfl, q σ s fun _ _ => rfl⟩, rfl⟩
    | cons _ _ => cases h
  | i :: is, ds, vs, e, e', σ, Q, s, r, h, q => by
    cases r with
    | nil => cases h
    | cons r rr =>
      obtain ⟨a, b⟩ := tgs_sound (Q := Q) (s.set (i := i) r) rr h fun σ' s' w => q σ' s' fun own ho => by
        rw [w own fun j hj => ho j (List.mem_cons_of_mem _ hj), wipe_set (ho i List.mem_cons_self)]
      exact ⟨⟨_, _, rfl, a⟩, by simp [b]⟩
theorem tg_sound {tg : Tg} {d : D} {v : V} {e e' : En} {σ : St} {Q : St → Hp → Prop} (s : Gst fa K H F ow e σ) (r : Rep fa K F d v) (h : bindL e tg d = some e')
    (q : ∀ σ', Gst fa K H F ow e' σ' → (∀ own, tgIn own tg = true → wipe σ' own = wipe σ own) → Q σ' H) : tgR K tg v σ H Q := by
  cases tg with
  | n i =>
    cases h
    exact q _ (s.set r) fun own ho => wipe_set (by simpa [tgIn] using ho)
  | t is =>
    cases d with
    | tup ds =>
      cases r with
      | tup h1 r1 =>
        obtain ⟨a, b⟩ := tgs_sound (Q := Q) s r1 h fun σ' s' w => q σ' s' fun own ho => w own (by simpa [tgIn] using ho)
        exact .inl ⟨_, _, rfl, SqT.sub s.sub h1, b, a⟩
    | lst ds =>
      cases r with
      | lst h1 r1 =>
        obtain ⟨a, b⟩ := tgs_sound (Q := Q) s r1 h fun σ' s' w => q σ' s' fun own ho => w own (by simpa [tgIn] using ho)
        exact .inr ⟨_, _, rfl, .inl (Rd.sub s.sub h1), b, a⟩
    | _ => cases h
end
section
variable {lev : Nat} {fa : Nat → Option Addr} {xr : XR} {m : Nm} {c : Cfg} {sc : Scope} {W : WX} {X : Cx}
theorem loc_of (C : Ctx lev fa xr m c sc W X) {i : Nat} {x : Str} (h : nmL m.N sc i x = true) : X.N[i]? = some x ∧ Loc X.env.scope x ∧ (X.fn x = true ∨ X.env.scope.names.lookup x = some .local) := by
  unfold nmL at h
  simp only [Bool.and_eq_true, decide_eq_true_eq] at h
  exact ⟨by rw [C.hN]; exact h.1, C.loc x h.2⟩
theorem pgs_tg (C : Ctx lev fa xr m c sc W X) : ∀ {is : List Nat} {es : List Expr}, tgC.go m.N sc is es = true → PGs X es (tgsR is) ∧ (assignEach es X.env).length = is.length ∧ (assignEach es X.env).findIdx? (·.1) = none
  | [], [], _ => ⟨pgs_nil, rfl, rfl⟩
  | i :: is, e :: es, h => by
    cases e <;> first | (simp [tgC.go] at h; done) | skip
    rename_i x p
    simp only [tgC.go, Bool.and_eq_true] at h
    obtain ⟨h1, h2, h3⟩ := loc_of C h.1
    obtain ⟨a, b, d⟩ := pgs_tg C h.2
    refine ⟨pgs_cons (pg_name (by rw [C.hN]; exact C.nd) h1 h2 h3) a, ?_, ?_⟩
    · show (assignEach es X.env).length + 1 = _; rw [b]; rfl
    · show List.findIdx? (·.1) ((false, assign (.Name x p) X.env) :: assignEach es X.env) = none
      rw [List.findIdx?_cons, d]; rfl
  | [], _ :: _, h => by simp [tgC.go] at h
  | _ :: _, [], h => by simp [tgC.go] at h
theorem pg_tg (C : Ctx lev fa xr m c sc W X) {tg : Tg} {e : Expr} (h : tgC m.N sc tg e = true) : PG X e (tgR X.K tg) := by
  cases tg with
  | n i =>
    cases e <;> first | (simp [tgC] at h; done) | skip
    obtain ⟨h1, h2, h3⟩ := loc_of C (by simpa [tgC] using h)
    exact pg_name (by rw [C.hN]; exact C.nd) h1 h2 h3
  | t is =>
    cases e <;> first | (simp [tgC] at h; done) | skip
    obtain ⟨a, b, d⟩ := pgs_tg C (by simpa [tgC] using h)
    exact pg_seq C.calm a b d
end
end Mi
end
section
/-! list comprehensions are sound -/
namespace Mi
open PySem L2 PySem.Spec
section
variable {lev : Nat} {fa : Nat → Option Addr} {xr : XR} {m : Nm} {c : Cfg} {sc : Scope} {W : WX} {X : Cx}
abbrev W0 : WX := fun _ _ _ _ => False
theorem lookup_relS_free {sc : Scope} : ∀ {names : List (Str × NameKind)} {x : Str} {k : NameKind}, names.lookup x = some k →
    ∃ k', (names.map fun (n, k) => if (k == NameKind.free && sc.kind == .function && sc.names.lookup n == some .cell) then (n, NameKind.cell) else (n, k)).lookup x = some k' ∧ (k' = k ∨ (k = .free ∧ k' = .cell))
  | [], _, _, h => by simp at h
  | (n, k₀) :: r, x, k, h => by
    have ih := @lookup_relS_free sc r x k
    show ∃ k', List.lookup x ((if (k₀ == NameKind.free && sc.kind == .function && sc.names.lookup n == some .cell) = true then (n, NameKind.cell) else (n, k₀)) :: (r.map _)) = some k' ∧ _
    cases hx : x == n with
    | true =>
      simp only [List.lookup_cons, hx] at h
      cases h
      by_cases hc : (k₀ == NameKind.free && sc.kind == .function && sc.names.lookup n == some .cell) = true
      · rw [if_pos hc]
        simp only [List.lookup_cons, hx]
        simp only [Bool.and_eq_true, beq_iff_eq] at hc
        exact ⟨_, rfl, .inr ⟨hc.1.1, rfl⟩⟩
      · rw [if_neg hc]
        simp only [List.lookup_cons, hx]
        exact ⟨_, rfl, .inl rfl⟩
    | false =>
      simp only [List.lookup_cons, hx] at h
      by_cases hc : (k₀ == NameKind.free && sc.kind == .function && sc.names.lookup n == some .cell) = true
      · rw [if_pos hc]; simp only [List.lookup_cons, hx]; exact ih h
      · rw [if_neg hc]; simp only [List.lookup_cons, hx]; exact ih h
/-- the block's context -/
theorem Ctx.blk (C : Ctx lev fa xr m c sc W X) {s : Scope} {cl : List (Str × Addr)} {a : Addr} {sh : Shared} {H : Hp} {fp : List Addr} : Ctx lev fa xr m c s W0 (X.blk sh H s (compEnvC s cl a X.env) fp) := by
  have key : ∀ x k, s.names.lookup x = some k → ∃ k', (compEnvC s cl a X.env).scope.names.lookup x = some k' ∧ (k' = k ∨ (k = .free ∧ k' = .cell)) := fun x k h => lookup_relS_free h
  refine ⟨C.hN, C.nd, C.calm, C.hr, fun x h => ?_, fun x h => ?_, fun x h => ?_, fun x h => ?_, C.bu, C.con, C.fn, C.alt, C.ca, C.cl, C.an, C.hr1, takes0⟩
  · unfold visC at h
    split at h
    · rename_i q; obtain ⟨k', e, r⟩ := key x _ q
      rcases r with r | ⟨r, _⟩ <;> cases r; exact .inl e
    · rename_i q; obtain ⟨k', e, r⟩ := key x _ q
      rcases r with r | ⟨r, _⟩ <;> cases r; exact .inr (.inl e)
    · rename_i q; obtain ⟨k', e, r⟩ := key x _ q
      rcases r with r | ⟨_, r⟩ <;> subst r; exact .inr (.inr e); exact .inr (.inl e)
    · cases h
  · unfold gloC at h
    split at h
    · rename_i q; obtain ⟨k', e, r⟩ := key x _ q
      rcases r with r | ⟨r, _⟩ <;> cases r; exact e
    · cases h
  · unfold locC at h
    split at h
    · rename_i q; obtain ⟨k', e, r⟩ := key x _ q
      rcases r with r | ⟨r, _⟩ <;> cases r; exact ⟨.inl e, .inr e⟩
    · rename_i q; obtain ⟨k', e, r⟩ := key x _ q
      rcases r with r | ⟨r, _⟩ <;> cases r
      refine ⟨.inr e, .inl ?_⟩
      show (s.names.lookup x == some .cell) = true
      rw [q]; rfl
    · cases h
  · rcases h with q | q
    · obtain ⟨k', e, r⟩ := key x _ q
      rcases r with r | ⟨r, _⟩ <;> cases r; exact .inl e
    · obtain ⟨k', e, r⟩ := key x _ q
      rcases r with r | ⟨_, r⟩ <;> subst r; exact .inr e; exact .inl e
theorem Ctx.blkOk (C : Ctx lev fa xr m c sc W X) {s : Scope} {own : List (Str × Nat)} (h : blkC m.N sc s own = true) : BlkOk X.N X.env.scope s own := by
  have k := blkOk_by h
  rw [C.hN]
  exact ⟨k.kind, k.uniq, k.ix, fun y hy e => C.cf y.1 (k.free y hy e), k.own⟩
theorem loopC_cons {tg : Tg} {tt : En → R Bool} {el : CE} {own : List Nat} {x : D} {xs acc : List D} {e : En} : loopC tg tt el own (x :: xs) acc e = match bindL (wipeL e own) tg x with
    | some e => (tt e).bind fun b e => if b then (el e).bind fun d e => loopC tg tt el own xs (d :: acc) e else loopC tg tt el own xs acc e
    | none => .no := by
  show wipeE own e (fun e => bindTg e tg x (fun e => (tt e).bind fun b e => if b then (el e).bind fun d e => loopC tg tt el own xs (d :: acc) e else loopC tg tt el own xs acc e) .no) = _
  rw [wipeE_eq, bindTg_eq]
  all_goals rfl
theorem tlc_of {K : PySem.W.Frag} {own : List Nat} {tg : Tg} {it : It} {i : CI} {elt : CE} {ifs : CL} {σ : St} {H : Hp} {Q : VK} (hb : ∀ k, it ≠ .b k) (ht : tgIn own tg = true) (h : tE fa K xr true W (xComp c own tg it elt i ifs) σ H Q) :
    tLc (tI fa K xr W i) (tgR K tg) (tT fa K xr W0 (tsC ifs)) (tE fa K xr false W0 elt) own σ H Q := by
  obtain ⟨F, ow, e, s, g⟩ := h
  refine ⟨F, ow, e, s, ?_⟩
  have g : Good fa K xr W σ H F ow ((i e).bind fun xs e₁ => if own.all (fun i => plainP (gt e₁ i) && !c.lent i) && decide (xs.length ≤ sizeLine) then
        lockE it e₁ fun e₁' => wipeE own e₁' fun e₁'' => match loopC tg (tsC ifs) elt own xs [] e₁'' with
        | .ok ds e₂ => backE e₁ own e₂ fun e₂ => freeE it e₁ e₂ (fun e₃ => Mi.R.ok (D.lst ds) e₃) .no
        | _ => (Mi.R.no : Mi.R D)
      else (Mi.R.no : Mi.R D)) _ := g
  refine g.bind.mono fun xs e₁ H1 F1 ow1 ev1 s1 g1 J wk D hD => ?_
  split at g1
  · rename_i hc
    simp only [Bool.and_eq_true, List.all_eq_true, decide_eq_true_eq] at hc
    obtain ⟨hpl, hsz⟩ := hc
    have lk : ∀ {β : Type} (k : En → β), lockE it e₁ k = k e₁ := by intro β k; cases it <;> first | rfl | exact absurd rfl (hb _)
    rw [lk, wipeE_eq] at g1
    cases hr : loopC tg (tsC ifs) elt own xs [] (wipeL e₁ own) with
    | no => rw [hr] at g1; exact g1.elim
    | ex x e => rw [hr] at g1; exact g1.elim
    | ok ds e₂ =>
      rw [hr] at g1
      simp only [backE_eq] at g1
      have fk : ∀ {β : Type} (e : En) (k : En → β) (no : β), freeE it e₁ e k no = k e := by intro β e k no; cases it <;> first | rfl | exact absurd rfl (hb _)
      rw [fk] at g1
      have hF1 : F1 D = none := s1.sub.noneOf hD
      have hO1 : ow1 D = none := by
        cases q : ow1 D with
        | none => rfl
        | some z => exact absurd hD (s1.own D z q).2
      refine ⟨fun i m H' => ∃ F' ow' e' acc vs, i ≤ xs.length ∧ m = xs.length - i ∧ acc.length ≤ i ∧ Evo H1 F1 ow1 H' F' ow' ∧ Gst fa K H' F' ow' (wipeL e' own) (wipe σ own) ∧ H' D = some (.lst vs) ∧ F' D = none ∧ ow' D = none ∧ RepL fa K F' acc.reverse vs ∧
        loopC tg (tsC ifs) elt own (xs.drop i) acc e' = .ok ds e₂, ⟨xs.length, F1, ow1, wipeL e₁ own, [], [], Nat.zero_le _, rfl, Nat.le_refl _, Evo.over .refl hD, ?_, upd_same, hF1, hO1, .nil, hr⟩, ?_⟩
      · exact ((s1.wipe (τ := σ) rfl).over hF1 hO1).wipe (τ := σ) wipe_wipe
      · rintro i m H' ⟨F', ow', e', acc, vs, hi, rfl, hacc, ev, s', hH', hF', hO', rr, hl⟩
        by_cases hlt : i < xs.length
        · refine .inr ?_
          have hx : xs[i]? = some xs[i] := List.getElem?_eq_getElem hlt
          rw [List.drop_eq_getElem_cons hlt, loopC_cons] at hl
          obtain ⟨hgo, hy⟩ := wk.go H' F' ow' ev.mono s'.sub i _ hx
          refine ⟨hgo, fun H'' => ∃ F' ow' e' acc vs, acc.length ≤ i + 1 ∧ Evo H1 F1 ow1 H'' F' ow' ∧ Gst fa K H'' F' ow' (wipeL e' own) (wipe σ own) ∧ H'' D = some (.lst vs) ∧ F' D = none ∧ ow' D = none ∧ RepL fa K F' acc.reverse vs ∧
            loopC tg (tsC ifs) elt own (xs.drop (i + 1)) acc e' = .ok ds e₂, fun H'' ⟨F', ow', e', acc, vs, a1, a2, a3, a4, a5, a6, a7, a8⟩ => ⟨xs.length - (i + 1), by omega, F', ow', e', acc, vs, by omega, rfl, a1, a2, a3, a4, a5, a6, a7, a8⟩, fun x H'' y => ?_⟩
          obtain ⟨F'', gr, rx⟩ := hy x H'' y
          have s'' := s'.grow gr
          cases hb' : bindL (wipeL e' own) tg xs[i] with
          | none => rw [hb'] at hl; cases hl
          | some eb =>
            rw [hb'] at hl
            simp only at hl
            refine tg_sound s'' rx hb' fun σ2 s2 hw => ⟨by rw [hw own ht, wipe_wipe], F'', ow', eb, s2, ?_⟩
            have hw2 : wipe σ2 own = wipe σ own := by rw [hw own ht, wipe_wipe]
            cases ht' : tsC ifs eb with
            | no => rw [ht'] at hl; cases hl
            | ex _ _ => rw [ht'] at hl; cases hl
            | ok b et =>
              rw [ht'] at hl
              have hl : (if b then (elt et).bind fun d e => loopC tg (tsC ifs) elt own (xs.drop (i + 1)) (d :: acc) e else loopC tg (tsC ifs) elt own (xs.drop (i + 1)) acc et) = .ok ds e₂ := hl
              intro H3 F3 ow3 ev3 s3
              have evA : Evo H1 F1 ow1 H3 F3 ow3 := (ev.trans (.grow gr)).trans ev3
              have hmo : mo (ow' D) = false := by rw [hO']; rfl
              have hD2 : H'' D = some (.lst vs) := gr.keep D _ hH'
              have hF2 : F'' D = none := by
                cases q : F'' D with
                | none => rfl
                | some z => rcases gr.new D (by rw [q]; simp) with z | z; exact absurd hF' z; rw [hH'] at z; cases z
              have hD3 : H3 D = some (.lst vs) := ev3.keep D _ hD2 hmo
              have hF3 : F3 D = none := by
                cases q : F3 D with
                | none => rfl
                | some z => rcases ev3.newF D (by rw [q]; simp) with z | z | z; exact absurd hF2 z; exact absurd hO' z; rw [hD2] at z; cases z
              have hO3 : ow3 D = none := by
                cases q : ow3 D with
                | none => rfl
                | some z => rcases ev3.newO D (by rw [q]; simp) with z | z; exact absurd hO' z; rw [hD2] at z; cases z
              have r3 : RepL fa K F3 acc.reverse vs := rr.mono (gr.mono.trans ev3.mono)
              cases b with
              | false =>
                simp only [Bool.false_eq_true, if_false] at hl ⊢
                exact ⟨F3, ow3, et, acc, vs, by omega, evA, s3.wipe hw2, hD3, hF3, hO3, r3, hl⟩
              | true =>
                simp only [if_true] at hl ⊢
                refine ⟨F3, ow3, et, s3, ?_⟩
                cases he : elt et with
                | no => rw [he] at hl; cases hl
                | ex _ _ => rw [he] at hl; cases hl
                | ok d ed =>
                  rw [he] at hl
                  intro H4 F4 ow4 ev4 s4 v hv
                  have rv := hv.rep (fr := false)
                  have hmo3 : mo (ow3 D) = false := by rw [hO3]; rfl
                  have hD4 : H4 D = some (.lst vs) := ev4.keep D _ hD3 hmo3
                  have hF4 : F4 D = none := by
                    cases q : F4 D with
                    | none => rfl
                    | some z => rcases ev4.newF D (by rw [q]; simp) with z | z | z; exact absurd hF3 z; exact absurd hO3 z; rw [hD3] at z; cases z
                  have hO4 : ow4 D = none := by
                    cases q : ow4 D with
                    | none => rfl
                    | some z => rcases ev4.newO D (by rw [q]; simp) with z | z; exact absurd hO3 z; rw [hD3] at z; cases z
                  have r4 := r3.mono ev4.mono
                  have ln := r4.length
                  rw [List.length_reverse] at ln
                  refine ⟨vs, hD4, by omega, F4, ow4, ed, d :: acc, vs ++ [v], by simp only [List.length_cons]; omega, (evA.trans ev4).over hD, (s4.over hF4 hO4).wipe hw2, upd_same, hF4, hO4, ?_, hl⟩
                  rw [List.reverse_cons]
                  exact r4.append (.cons rv .nil)
        · have e : i = xs.length := by omega
          subst e
          refine .inl ⟨wk.stop H' F' ow' ev.mono s'.sub, ?_⟩
          rw [List.drop_length] at hl
          have hl : (Mi.R.ok acc.reverse e' : Mi.R (List Mi.D)) = .ok ds e₂ := hl
          cases hl
          have sb := s1.back (vs := own) (fun i h => by have := hpl i h; simpa using this.1) ev s'
          refine g1 H' F' ow' ev sb (.ref D) ?_
          exact ⟨D, vs, rfl, Classical.byContradiction fun z => ev1.dom D z hD, hH', hF', hO', rr⟩
  · exact g1.elim
theorem chkI_folded {it : It} {e : Expr} (h : chkI m sc it e = true) (env : Env) : ∀ x, foldedSetIterable e env x = pure x := by
  intro x
  cases e <;> first | rfl | skip
  exfalso
  cases it with
  | e a => 
    cases a with
    | bool b es => cases es <;> simp [chkI, chkE, junkOk] at h
    | px o as => unfold chkI chkE at h; cases o <;> simp [pxC, bcC] at h
    | _ => simp [chkI, chkE] at h
  | _ => simp [chkI] at h
theorem chkI_nb {it : It} {e : Expr} (h : chkI m sc it e = true) : ∀ k, it ≠ .b k := by
  intro k z
  subst z
  simp [chkI] at h
theorem pts_of {X : Cx} {K : PySem.W.Frag} {es : List Expr} {l : CL} (h : es = [] ∧ l = [] ∨ ∃ e a f, es = [e] ∧ l = [(false, a, f)] ∧ PT X e (tT fa K xr W0 (tru' f))) : PTs X es (tT fa K xr W0 (tsC l)) := by
  rcases h with ⟨rfl, rfl⟩ | ⟨e, a, f, rfl, rfl, h⟩
  · refine ⟨fun pins s σ H Q I q => pts_nil.run pins s σ H Q I ?_⟩
    obtain ⟨F, ow, env, s, g⟩ := q
    exact g H F ow .refl s
  · refine ⟨fun pins s σ H Q I q => (pts_one h).run pins s σ H Q I ?_⟩
    obtain ⟨F, ow, env, s, g⟩ := q
    refine ⟨F, ow, env, s, ?_⟩
    have : tsC [(false, a, f)] env = tru' f env := by
      show ((f env).bind fun d e => (lift (tru d) e).bind fun b e => if b then Mi.R.ok true e else Mi.R.ok false e) = (f env).bind fun d e => lift (tru d) e
      congr 1
      funext d e
      rw [lift_bind]
      cases tru d with
      | none => rfl
      | some b => cases b <;> rfl
    rwa [this] at g
theorem snd_comp (C : Ctx lev fa xr m c sc W X) {own : List Nat} {tg : Tg} {it : It} {i : CI} {elt : CE} {ifs : CL} {et ei ee : Expr} {es : List Expr} {s : Scope} {pos : Pos} (hb : ∀ k, it ≠ .b k) (h1 : blkC m.N sc s (ownOk m.N own) = true) (ho : (own.all fun i => decide (i < m.N.length)) = true) (ht : tgIn own tg = true) (h2 : tgC m.N s tg et = true)
    (hi : PI X et ei (tI fa X.K xr W i)) (hf : ∀ x, foldedSetIterable ei X.env x = pure x)
    (hif : ∀ (X' : Cx), Ctx lev fa xr m c s W0 X' → X'.K = X.K → PTs X' es (tT fa X.K xr W0 (tsC ifs))) (he : ∀ (X' : Cx), Ctx lev fa xr m c s W0 X' → X'.K = X.K → PE X' ee (tE fa X.K xr false W0 elt)) :
    PE X (.ListComp ee [⟨et, ei, es, 0⟩] s pos) (tE fa X.K xr true W (xComp c own tg it elt i ifs)) := by
  have hown : (ownOk m.N own).map (·.2) = own := by unfold ownOk; rw [List.map_map]; exact List.map_id _
  have key := pe_lc (pos := pos) (g := tgR X.K tg) C.calm (by rw [C.hN]; exact C.nd) hi (C.blkOk h1) (fun s' H' a cl fp => pg_tg (C.blk (cl := cl) (a := a) (sh := s') (H := H') (fp := fp)) h2) (fun s' H' a cl fp => hif _ (C.blk (cl := cl) (a := a) (sh := s') (H := H') (fp := fp)) rfl)
    (fun s' H' a cl fp => he _ (C.blk (cl := cl) (a := a) (sh := s') (H := H') (fp := fp)) rfl) hf
  rw [hown] at key
  exact key.imp fun σ H Q h => tlc_of hb ht h
end
end Mi
end
section
/-! calls of defs are sound -/
namespace Mi
open PySem L2 PySem.Spec
theorem vals_eq : ∀ ds : List D, vals ds = ds.map .val
  | [] => rfl
  | d :: ds => congrArg (P.val d :: ·) (vals_eq ds)
section
variable {lev : Nat} {fa : Nat → Option Addr} {xr : XR} {m : Nm} {c : Cfg} {sc : Scope} {W : WX} {X : Cx} {F H F1 H1 : Hp} {ow ow1 : Ow} {e : En} {σ : St} {K : PySem.W.Frag}
/-- the address of the first parameter's list, if it keeps one -/
def hdA : P → Option V → Option Addr | .ml _, some (.ref a) => some a | _, _ => none
def owC (o : Option Addr) : Ow := fun a => if o = some a then some (true, 0) else none
/-- behind a call: what the caller still owns -/
noncomputable def owB (F' : Hp) (ow : Ow) : Ow := fun a => open Classical in if F' a = none then ow a else none
/-- the callee's first state; the first argument is a value or a list handed over -/
theorem callee_start {p : P} {v : V} {ds : List D} {vs : List V} (sb : Sub F H) (hp : (∃ d, p = .val d ∧ Rep fa K F d v) ∨ (∃ xs a us, p = .ml xs ∧ v = .ref a ∧ F a = none ∧ H a = some (.lst us) ∧ RepL fa K F xs us) ∨ p = .un) (r : RepL fa K F ds vs) :
    Gst fa K H F (owC (hdA p (some v))) (p :: vals ds) ((v :: vs).map some) := by
  refine ⟨sb, fun a i h => ?_, ?_, fun i q h => ?_⟩
  · unfold owC at h
    split at h
    · rename_i e
      rcases hp with ⟨d, rfl, _⟩ | ⟨xs, b, us, rfl, rfl, h1, h2, _⟩ | rfl
      · cases e
      · cases e; exact ⟨h1, by rw [h2]; simp⟩
      · cases e
    · cases h
  · rw [vals_eq]; simp [r.length]
  · cases i with
    | zero =>
      cases h
      refine ⟨some v, rfl, ?_⟩
      rcases hp with ⟨d, rfl, r'⟩ | ⟨xs, b, us, rfl, rfl, h1, h2, r'⟩ | rfl
      · exact ⟨v, rfl, r'⟩
      · exact ⟨b, us, rfl, by unfold owC hdA; simp, h1, h2, r'⟩
      · trivial
    | succ i =>
      have h : (vals ds)[i]? = some q := h
      rw [vals_eq, List.getElem?_map] at h
      cases hd : ds[i]? with
      | none => rw [hd] at h; cases h
      | some d =>
        rw [hd] at h
        cases h
        obtain ⟨u, hu, ru⟩ := r.get hd
        exact ⟨some u, by show (vs.map some)[i]? = _; rw [List.getElem?_map, hu]; rfl, u, rfl, ru⟩
theorem owB_some {F' : Hp} {a : Addr} {z : Bool × Nat} (h : owB F' ow a = some z) : F' a = none ∧ ow a = some z := by
  unfold owB at h
  split at h
  · rename_i q; exact ⟨q, h⟩
  · cases h
/-- the caller behind the call -/
theorem caller_after {o : Option Addr} {ow' : Ow} {H' F' : Hp} (s1 : Gst fa K H1 F1 ow1 e σ) (ev1 : Evo H F ow H1 F1 ow1) (ev : Evo H1 F1 (owC o) H' F' ow') (sb : Sub F' H')
    (ho : ∀ a, o = some a → H a = none ∨ ∃ i, ow1 a = some (true, i)) : Evo H F ow H' F' (owB F' ow1) := by
  have hc : ∀ a, owC o a ≠ none → o = some a := fun a h => by unfold owC at h; split at h; assumption; exact absurd rfl h
  refine ⟨ev1.mono.trans ev.mono, fun a u q n => ?_, fun a q => ev.dom a (ev1.dom a q), fun a q => ?_, fun a q => ?_, fun a q => ?_⟩
  · refine ev.keep a u (ev1.keep a u q n) ?_
    cases z : owC o a with
    | none => rfl
    | some w =>
      rcases ho a (hc a (by rw [z]; simp)) with y | ⟨i, y⟩
      · rw [q] at y; cases y
      · rcases ev1.newM a (by rw [y]; rfl) with x | x
        · rw [n] at x; cases x
        · rw [q] at x; cases x
  · rcases ev.newF a q with z | z | z
    · exact ev1.newF a z
    · rcases ho a (hc a z) with y | ⟨i, y⟩
      · exact .inr (.inr y)
      · rcases ev1.newO a (by rw [y]; simp) with x | x
        · exact .inr (.inl x)
        · exact .inr (.inr x)
    · exact .inr (.inr (Classical.byContradiction fun x => ev1.dom a x z))
  · cases z : owB F' ow1 a with
    | none => exact absurd z q
    | some w => exact ev1.newO a (by rw [(owB_some z).2]; simp)
  · cases z : owB F' ow1 a with
    | none => rw [z] at q; cases q
    | some w => rw [z] at q; exact ev1.newM a (by rw [(owB_some z).2]; exact q)
/-- the caller's slots behind the call, all but the one that was lent -/
theorem slots_after {o : Option Addr} {ow' : Ow} {H' F' : Hp} (s1 : Gst fa K H1 F1 ow1 e σ) (ev : Evo H1 F1 (owC o) H' F' ow') {i : Nat} {p : P} {u : Option V} (hs : SlotOk fa K H1 F1 ow1 i p u) (hn : ∀ a, o = some a → ow1 a ≠ some (true, i) ∧ ow1 a ≠ some (false, i)) :
    SlotOk fa K H' F' (owB F' ow1) i p u := by
  have go : ∀ a b, ow1 a = some (b, i) → F1 a = none → H1 a ≠ none → F' a = none ∧ owB F' ow1 a = some (b, i) ∧ owC o a = none := fun a b h hF hH => by
    have hc : owC o a = none := by
      unfold owC
      split
      · rename_i q; cases b with
        | true => exact absurd h (hn a q).1
        | false => exact absurd h (hn a q).2
      · rfl
    have hF' : F' a = none := by
      cases q : F' a with
      | none => rfl
      | some z =>
        rcases ev.newF a (by rw [q]; simp) with x | x | x
        · exact absurd hF x
        · exact absurd hc x
        · exact absurd x hH
    exact ⟨hF', by unfold owB; rw [if_pos hF']; exact h, hc⟩
  refine hs.move ev.mono fun a b w h1 h2 h3 => ?_
  obtain ⟨g1, g2, g3⟩ := go a b h1 h2 (by rw [h3]; simp)
  exact ⟨g2, g1, ev.keep a _ h3 (by rw [g3]; rfl)⟩
end
end Mi
end
section
/-! calls of defs are sound -/
namespace Mi
open PySem L2 PySem.Spec
section
variable {lev : Nat} {fa : Nat → Option Addr} {xr : XR} {m : Nm} {c : Cfg} {sc : Scope} {W : WX} {X : Cx} {F H F1 H1 : Hp} {ow ow1 : Ow} {e : En} {σ : St} {K : PySem.W.Frag}
/-- what the first argument is to the caller -/
def HeadOk (H F1 H1 : Hp) (ow1 : Ow) (e : En) (σ : St) (fa : Nat → Option Addr) (K : PySem.W.Frag) (ls : Option Nat) (p : P) (v : V) : Prop := match ls with
  | none => (∃ d, p = .val d ∧ Rep fa K F1 d v) ∨ (∃ xs a us, p = .ml xs ∧ v = .ref a ∧ F1 a = none ∧ H1 a = some (.lst us) ∧ RepL fa K F1 xs us ∧ H a = none ∧ ow1 a = none) ∨ p = .un
  | some i => ∃ xs a us, p = .ml xs ∧ v = .ref a ∧ F1 a = none ∧ H1 a = some (.lst us) ∧ RepL fa K F1 xs us ∧ ow1 a = some (true, i) ∧ σ[i]? = some (some (.ref a))
theorem Vd.recast {fr : Bool} {H0 H' F' : Hp} {ow' ow'' : Ow} {d : D} {v : V} (h : Vd fa K fr H1 H' F' ow' d v) (hn : ∀ q, H1 q = none → F' q = none → H0 q = none ∧ ow'' q = none) : Vd fa K fr H0 H' F' ow'' d v := by
  cases fr with
  | false => exact Vd.of (h.rep (fr := false))
  | true =>
    cases d with
    | lst ds =>
      obtain ⟨q, us, rfl, h1, h2, h3, h4, h5⟩ := h
      exact ⟨q, us, rfl, (hn q h1 h3).1, h2, h3, (hn q h1 h3).2, h5⟩
    | dct ds =>
      obtain ⟨q, us, rfl, h1, h2, h3, h4, h5⟩ := h
      exact ⟨q, us, rfl, (hn q h1 h3).1, h2, h3, (hn q h1 h3).2, h5⟩
    | _ => exact h
theorem call_core {f : Nat} {p : P} {v : V} {ds : List D} {vs : List V} {ls : Option Nat} {Q : VK} (ev1 : Evo H F ow H1 F1 ow1) (s1 : Gst fa K H1 F1 ow1 e σ) (hp : HeadOk H F1 H1 ow1 e σ fa K ls p v) (r : RepL fa K F1 ds vs)
    (g : Good fa K xr W σ H F ow (doCall c f (p :: vals ds) ls e) fun d _ H' F' ow' => ∀ v, Vd fa K (c.own f) H H' F' ow' d v → Q v H') : spF fa K xr c f (ds.length + 1) (v :: vs) H1 Q (WE W σ) := by
  have st : Gst fa K H1 F1 (owC (hdA p (some v))) (p :: vals ds) ((v :: vs).map some) := by
    refine callee_start s1.sub ?_ r
    unfold HeadOk at hp
    cases ls with
    | none =>
      rcases hp with ⟨d, h1, h2⟩ | ⟨xs, a, us, h1, h2, h3, h4, h5, _⟩ | h1
      · exact .inl ⟨d, h1, h2⟩
      · exact .inr (.inl ⟨xs, a, us, h1, h2, h3, h4, h5⟩)
      · exact .inr (.inr h1)
    | some i => obtain ⟨xs, a, us, h1, h2, h3, h4, h5, _⟩ := hp; exact .inr (.inl ⟨xs, a, us, h1, h2, h3, h4, h5⟩)
  have ho : ∀ a, hdA p (some v) = some a → H a = none ∨ ∃ i, ow1 a = some (true, i) := fun a ha => by
    unfold HeadOk at hp
    cases ls with
    | none =>
      rcases hp with ⟨d, rfl, _⟩ | ⟨xs, b, us, rfl, rfl, _, _, _, h, _⟩ | rfl
      · cases ha
      · cases ha; exact .inl h
      · cases ha
    | some i => obtain ⟨xs, b, us, rfl, rfl, _, _, _, h, _⟩ := hp; cases ha; exact .inr ⟨i, h⟩
  have key : ∀ {ps' : List P} {H' F' : Hp} {ow' : Ow}, Evo H1 F1 (owC (hdA p (some v))) H' F' ow' → Sub F' H' → (∀ j u, isMl (gt (p :: vals ds) j) = true → (v :: vs)[j]? = some u → SlotOk fa K H' F' ow' j (gt ps' j) (some u)) →
      Evo H F ow H' F' (owB F' ow1) ∧ (∀ {β : Type} (k : En → Mi.R β), ∃ r, backS ls ps' e k Mi.R.no = r ∧ (r = .no ∨ ∃ e', r = k e' ∧ Gst fa K H' F' (owB F' ow1) e' σ)) := by
    intro ps' H' F' ow' ev sb hsl
    refine ⟨caller_after s1 ev1 ev sb ho, fun {β} k => ⟨_, rfl, ?_⟩⟩
    have hown : ∀ a i, owB F' ow1 a = some i → F' a = none ∧ H' a ≠ none := fun a i h => ⟨(owB_some h).1, ev.dom a (s1.own a i (owB_some h).2).2⟩
    unfold HeadOk at hp
    cases ls with
    | none =>
      refine .inr ⟨e, rfl, sb, hown, s1.len, fun i q hq => ?_⟩
      obtain ⟨u, h1, h2⟩ := s1.slot i q hq
      refine ⟨u, h1, slots_after s1 ev h2 fun a ha => ?_⟩
      rcases hp with ⟨d, rfl, _⟩ | ⟨xs, b, us, rfl, rfl, _, _, _, _, h⟩ | rfl
      · cases ha
      · cases ha; rw [h]; exact ⟨by simp, by simp⟩
      · cases ha
    | some i =>
      obtain ⟨xs, b, us, rfl, rfl, hF, hH, _, h, hσ⟩ := hp
      have hz := hsl 0 (.ref b) rfl rfl
      unfold backS
      cases q : gt ps' 0 with
      | ml ys =>
        rw [q] at hz
        simp only
        rw [st_eq]
        refine .inr ⟨_, rfl, sb, hown, by rw [List.length_set, s1.len], fun j p' hj => ?_⟩
        by_cases hij : i = j
        · subst hij
          have hl : i < e.length := by rw [s1.len]; exact (List.getElem?_eq_some_iff.mp hσ).1
          rw [List.getElem?_set_self hl] at hj
          cases hj
          obtain ⟨a', vs', r1, r2, r3, r4, r5⟩ := hz
          cases r1
          exact ⟨_, hσ, b, vs', rfl, by unfold owB; rw [if_pos r3]; exact h, r3, r4, r5⟩
        · rw [List.getElem?_set_ne hij] at hj
          obtain ⟨u, h1, h2⟩ := s1.slot j p' hj
          refine ⟨u, h1, slots_after s1 ev h2 fun a ha => ?_⟩
          cases ha
          rw [h]
          exact ⟨fun z => hij (by injection z with z; exact (Prod.mk.inj z).2), fun z => by injection z with z; cases (Prod.mk.inj z).1⟩
      | _ => exact .inl rfl
  refine ⟨F1, _, _, by simp [vals_eq], st, ?_⟩
  unfold doCall at g
  cases hc : c.cf f (p :: vals ds) with
  | no => rw [hc] at g; exact g.elim
  | ok d ps' =>
    rw [hc] at g
    intro v' H' F' ow' ev sb how hsl hv
    obtain ⟨ev2, hb⟩ := key ev sb hsl
    obtain ⟨r', hr, hb⟩ := hb fun e => Mi.R.ok d e
    simp only at g
    rw [hr] at g
    rcases hb with rfl | ⟨e', rfl, s'⟩
    · exact g.elim
    · refine g H' F' _ ev2 s' v' ?_
      have hn : ∀ a, H1 a = none → H a = none := fun a h => Classical.byContradiction fun z => ev1.dom a z h
      exact hv.recast fun q h1 h3 => ⟨hn q h1, by
        cases z : owB F' ow1 q with
        | none => rfl
        | some w => exact absurd h1 (s1.own q w (owB_some z).2).2⟩
  | ex x ps' =>
    rw [hc] at g
    intro cls dd H' F' ow' ev sb how hsl hx
    obtain ⟨ev2, hb⟩ := key ev sb hsl
    obtain ⟨r', hr, hb⟩ := hb fun e => (Mi.R.ex x e : Mi.R Mi.D)
    simp only at g
    rw [hr] at g
    rcases hb with rfl | ⟨e', rfl, s'⟩
    · exact g.elim
    · exact g cls dd H' F' _ ev2 s' hx
theorem Good.see {α : Type} {r : R α} {Q Q' : α → En → Hp → Hp → Ow → Prop} (g : Good fa K xr W σ H F ow r Q) (h : ∀ a e, r = .ok a e → ∀ H' F' ow', Evo H F ow H' F' ow' → Gst fa K H' F' ow' e σ → Q a e H' F' ow' → Q' a e H' F' ow') : Good fa K xr W σ H F ow r Q' := by
  cases r with
  | ok a e => exact fun H' F' ow' h1 h2 => h a e rfl H' F' ow' h1 h2 (g H' F' ow' h1 h2)
  | ex x e => exact g
  | no => exact g
def plainCL (l : CL) : Prop := ∀ x ∈ l, x.1 = false
theorem esC_len : ∀ {l : CL} {e e' : En} {ds : List D}, plainCL l → esC l e = .ok ds e' → ds.length = l.length
  | [], e, e', ds, _, h => by
    have h : (Mi.R.ok [] e : Mi.R (List Mi.D)) = .ok ds e' := h
    cases h; rfl
  | (s, a, f) :: l, e, e', ds, hp, h => by
    have hs : s = false := hp _ List.mem_cons_self
    subst hs
    have h : ((f e).bind fun d e => (esC l e).bind fun ds e => Mi.R.ok (d :: ds) e) = .ok ds e' := h
    cases q : f e with
    | no => rw [q] at h; cases h
    | ex _ _ => rw [q] at h; cases h
    | ok d e1 =>
      rw [q] at h
      have h : ((esC l e1).bind fun ds e => Mi.R.ok (d :: ds) e) = .ok ds e' := h
      cases q' : esC l e1 with
      | no => rw [q'] at h; cases h
      | ex _ _ => rw [q'] at h; cases h
      | ok ds' e2 =>
        rw [q'] at h
        have h : (Mi.R.ok (d :: ds') e2 : Mi.R (List Mi.D)) = .ok ds e' := h
        cases h
        simp [esC_len (fun x hx => hp x (List.mem_cons_of_mem _ hx)) q']
/-- a floating list stays -/
theorem Vd.later {fr : Bool} {F' H' H0 : Hp} {ow' : Ow} {d : D} {v : V} (h : Vd fa K fr H0 H1 F1 ow1 d v) (ev : Evo H1 F1 ow1 H' F' ow') : Vd fa K fr H0 H' F' ow' d v := by
  cases fr with
  | false => exact Vd.of ((h.rep (fr := false)).mono ev.mono)
  | true =>
    cases d with
    | lst ds =>
      obtain ⟨q, us, rfl, h1, h2, h3, h4, h5⟩ := h
      refine ⟨q, us, rfl, h1, ev.keep q _ h2 (by rw [h4]; rfl), ?_, ?_, h5.mono ev.mono⟩
      · cases z : F' q with
        | none => rfl
        | some w => rcases ev.newF q (by rw [z]; simp) with y | y | y; exact absurd h3 y; exact absurd h4 y; rw [h2] at y; cases y
      · cases z : ow' q with
        | none => rfl
        | some w => rcases ev.newO q (by rw [z]; simp) with y | y; exact absurd h4 y; rw [h2] at y; cases y
    | dct ds =>
      obtain ⟨q, us, rfl, h1, h2, h3, h4, h5⟩ := h
      refine ⟨q, us, rfl, h1, ev.keep q _ h2 (by rw [h4]; rfl), ?_, ?_, h5.mono ev.mono⟩
      · cases z : F' q with
        | none => rfl
        | some w => rcases ev.newF q (by rw [z]; simp) with y | y | y; exact absurd h3 y; exact absurd h4 y; rw [h2] at y; cases y
      · cases z : ow' q with
        | none => rfl
        | some w => rcases ev.newO q (by rw [z]; simp) with y | y; exact absurd h4 y; rw [h2] at y; cases y
    | _ => exact Rep.mono ev.mono h
theorem lends_some {f i : Nat} {a : M} (h : lends c f a e = some i) : a = .v i ∧ ∃ xs, gt e i = .ml xs := by
  unfold lends at h
  split at h
  · split at h
    · split at h
      · rename_i q; cases h; exact ⟨rfl, _, q⟩
      · cases h
    · cases h
  · cases h
theorem fn_of (C : Ctx lev fa xr m c sc W X) {x : Str} {f : Nat} (hg : isFn m sc f x = true) : Gl X x ∧ (x == ("__debug__" : Str)) = false ∧ ∃ a, X.mg x = some (.ref a) ∧ fa f = some a ∧ (m.ps f).Nodup ∧
    Callee X.prog X.w X.K X.mg X.base lev a (m.ps f) (m.byN f) (spF fa X.K xr c f (m.np f)) := by
  unfold isFn at hg
  simp only [Bool.and_eq_true] at hg
  obtain ⟨⟨g1, g3⟩, g2⟩ := hg
  split at g2
  · rename_i g hgk
    obtain ⟨a, h1, h2⟩ := C.fn x g hgk
    have h2 : fa f = some a := by
      rw [Bool.or_eq_true, decide_eq_true_eq, decide_eq_true_eq] at g2
      rcases g2 with e | e
      · rw [← e]; exact h2
      · rw [← C.alt _ _ e]; exact h2
    obtain ⟨h3, h4⟩ := C.ca f a h2
    exact ⟨C.glo _ g1, (node_of g3).1, a, h1, h2, h3, h4⟩
  · cases g2
theorem spF_len {i np : Nat} {vs : List V} {Q : VK} {E : XK} (h : spF fa K xr c i np vs H Q E) : vs.length = np := by
  obtain ⟨F, ow, ps, h1, g, _⟩ := h
  have := g.len
  rw [List.length_map] at this
  omega
/-- a call by place -/
theorem pe_callee {a : Addr} {ps : List Str} {sp : Sp} {x : Str} {e : Expr} {es : List Expr} {t : TA} {p pos : Pos} (tk : Takes X W) (hr : Room (lev + 1) X.A) {bn : Bool} (F : Callee X.prog X.w X.K X.mg X.base lev a ps bn sp) (nd : ps.Nodup) (hs : ∀ vs H Q E, sp vs H Q E → vs.length = ps.length) (hg : Gl X x) (hm : X.mg x = some (.ref a))
    (ha : PA X (e :: es) t) (hdb : (x == ("__debug__" : Str)) = false) (he : starEach (e :: es) X.env = (false, eval e X.env) :: starEach es X.env) (hpl : (backTo pos (starEach es X.env)).any (·.1) = false) :
    PE X (.Call (.Name x p) (e :: es) [] pos) (fun σ H Q => t σ H fun vs H1 => sp vs H1 Q (WE W σ)) := by
  refine ⟨fun pins s σ H Q I h => ?_⟩
  refine wpAny_Call_Name_kw (ld_glob I hg hm ?_ hdb)
  refine PySem.W.callWith_K (h₀ := X.base) I.ok.mod.kin F.kp (thn (ha.run pos pins s σ H _ I h) fun us s1 ⟨vs, H1, I1, r, q⟩ => ⟨I1.kIn, ?_⟩) he hpl
  exact F.run rfl rfl rfl rfl rfl hr tk I1 r (.all nd (show ps.length = us.length by rw [← r.length]; exact (hs _ _ _ _ q).symm)) (fun _ => rfl) q
theorem snd_call0 (C : Ctx lev fa xr m c sc W X) {f : Nat} {x : Str} {p pos : Pos} (hg : isFn m sc f x = true) (hn : m.np f = 0) : PE X (.Call (.Name x p) [] [] pos) (tE fa X.K xr (c.own f) W (xCall c f [])) := by
  obtain ⟨g1, g2, a, h1, _, nd, h5⟩ := fn_of C hg
  refine ⟨fun pins s σ H Q I h => ?_⟩
  refine wpAny_Call_Name_kw (ld_glob I g1 h1 ?_ g2)
  refine PySem.W.callWith_K0 I.kIn h5.kp (h5.run (us := []) (vs := []) (ws := []) (W := W) rfl rfl rfl rfl rfl C.hr1 C.tk I .nil (.all nd hn) (fun _ => rfl) ?_)
  obtain ⟨F, ow, e, s', g⟩ := h
  have g : Good fa X.K xr W σ H F ow (doCall c f [] none e) _ := g
  show spF fa X.K xr c f (m.np f) [] H Q (WE W σ)
  rw [hn]
  refine ⟨F, fun _ => none, [], rfl, ⟨s'.sub, (fun _ _ h => by cases h), rfl, (fun i p h => by cases h)⟩, ?_⟩
  have hk : ∀ {H' F' : Hp} {ow' : Ow}, Evo H F (fun _ => none) H' F' ow' → Evo H F (owC none) H' F' ow' := fun h => by
    have : (owC none : Ow) = fun _ => none := by funext a; unfold owC; rw [if_neg (by simp)]
    rw [this]; exact h
  have hown : ∀ {H' F' : Hp} {ow' : Ow}, Evo H F (owC none) H' F' ow' → Sub F' H' → Evo H F ow H' F' (owB F' ow) ∧ Gst fa X.K H' F' (owB F' ow) e σ := fun {H' F' ow'} ev sb =>
    ⟨caller_after s' .refl ev sb (fun a h => by cases h), sb, fun a i h => ⟨(owB_some h).1, ev.dom a (s'.own a i (owB_some h).2).2⟩, s'.len, fun i p hp => by
      obtain ⟨u, u1, u2⟩ := s'.slot i p hp
      exact ⟨u, u1, slots_after s' ev u2 (fun a h => by cases h)⟩⟩
  unfold doCall at g
  cases hc : c.cf f [] with
  | no => rw [hc] at g; exact g.elim
  | ok d ps' =>
    rw [hc] at g
    intro v' H' F' ow' ev sb how hsl hv
    obtain ⟨e1, e2⟩ := hown (hk ev) sb
    exact g H' F' _ e1 e2 v' (hv.recast fun q h1 _ => ⟨h1, by
        cases z : owB F' ow q with
        | none => rfl
        | some w => exact absurd h1 (s'.own q w (owB_some z).2).2⟩)
  | ex x ps' =>
    rw [hc] at g
    intro cls dd H' F' ow' ev sb how hsl hx
    obtain ⟨e1, e2⟩ := hown (hk ev) sb
    exact g cls dd H' F' _ e1 e2 hx
theorem snd_call (C : Ctx lev fa xr m c sc W X) {f : Nat} {x : Str} {a : M} {fc : CE} {l : CL} {e1 : Expr} {es : List Expr} {p pos : Pos} (hg : isFn m sc f x = true) (hl : l.length + 1 = m.np f) (hpl' : plainCL l)
    (ha : PE X e1 (tE fa X.K xr (a.fresh c.own) W fc)) (hv : ∀ i, a = .v i → PE X e1 (tVar i)) (hr : PA X es (tA fa X.K xr W (esC l)))
    (he : starEach (e1 :: es) X.env = (false, eval e1 X.env) :: starEach es X.env) (hpl : (backTo pos (starEach es X.env)).any (·.1) = false) :
    PE X (.Call (.Name x p) (e1 :: es) [] pos) (tE fa X.K xr (c.own f) W (xCall c f ((false, a, fc) :: l))) := by
  obtain ⟨g1, g2, fa', h1, _, nd, h5⟩ := fn_of C hg
  have ha : PE X e1 (tE fa X.K xr (c.io f && a.fresh c.own) W fc) := by
    cases q : c.io f with
    | true => exact ha
    | false => exact pe_weak ha
  have hab : PE X e1 (fun σ H Q => (∃ i, a = .v i ∧ tVar i σ H Q) ∨ tE fa X.K xr (c.io f && a.fresh c.own) W fc σ H Q) := ⟨fun pins s σ H Q I h => by
    rcases h with ⟨i, hi, h⟩ | h
    · exact (hv i hi).run pins s σ H Q I h
    · exact ha.run pins s σ H Q I h⟩
  refine (pe_callee C.tk C.hr1 h5 nd (fun vs H Q E h => spF_len h) g1 h1 (pa_cons hab hr he) g2 he hpl).imp fun σ H Q ⟨F, ow, e, s, g⟩ => ?_
  have g : Good fa X.K xr W σ H F ow (match lends c f a e with
    | some i => (esC l e).bind fun ds e => (match gt e i with
      | .ml xs => doCall c f (.ml xs :: vals ds) (some i) e
      | _ => .no)
    | none => (fc e).bind fun d e => (esC l e).bind fun ds e => doCall c f (handP c f a d :: vals ds) none e) _ := g
  show (∃ i, a = .v i ∧ tVar i σ H _) ∨ _
  cases hls : lends c f a e with
  | some i =>
    rw [hls] at g
    obtain ⟨ea, xs, hx⟩ := lends_some hls
    obtain ⟨o, o1, b, us, rfl, o2, o3, o4, o5⟩ := s.slot i _ (gt_some hx (by simp))
    refine .inl ⟨i, ea, .ref b, o1, F, ow, e, s, ?_⟩
    simp only at g
    cases hes : esC l e with
    | no => rw [hes] at g; exact g.elim
    | ex x e' => rw [hes] at g; exact g
    | ok ds e2 =>
      rw [hes] at g
      intro H2 F2 ow2 ev2 s2 vs hvs
      have g : Good fa X.K xr W σ H F ow (match gt e2 i with
        | .ml xs => doCall c f (.ml xs :: vals ds) (some i) e2
        | _ => .no) _ := g
      cases hx2 : gt e2 i with
      | ml ys =>
        rw [hx2] at g
        obtain ⟨o', p1, b', us', rfl, p2, p3, p4, p5⟩ := s2.slot i _ (gt_some hx2 (by simp))
        rw [o1] at p1
        cases p1
        show spF fa X.K xr c f (m.np f) (V.ref b :: vs) H2 Q (WE W σ)
        have := call_core (e := e2) (Q := Q) ev2 s2 (ls := some i) (v := .ref b) ⟨ys, b, us', rfl, rfl, p3, p4, p5, p2, o1⟩ hvs g
        rw [esC_len hpl' hes, hl] at this
        exact this
      | _ => rw [hx2] at g; exact g.elim
  | none =>
    rw [hls] at g
    simp only at g
    refine .inr ⟨F, ow, e, s, ?_⟩
    cases hf : fc e with
    | no => rw [hf] at g; exact g.elim
    | ex x e' => rw [hf] at g; exact g
    | ok d e1 =>
      rw [hf] at g
      intro H1 F1 ow1 ev1 s1 v hv1
      refine ⟨F1, ow1, e1, s1, ?_⟩
      have g : Good fa X.K xr W σ H F ow ((esC l e1).bind fun ds e => doCall c f (handP c f a d :: vals ds) none e) _ := g
      cases hes : esC l e1 with
      | no => rw [hes] at g; exact g.elim
      | ex x e' => rw [hes] at g; exact Good.shift (r := (Mi.R.ex x e' : Mi.R (List Mi.D))) (Q := fun _ _ _ _ _ => True) g ev1
      | ok ds e2 =>
        rw [hes] at g
        intro H2 F2 ow2 ev2 s2 vs hvs
        show spF fa X.K xr c f (m.np f) (v :: vs) H2 Q (WE W σ)
        have hv2 := hv1.later ev2
        have := call_core (Q := Q) (ev1.trans ev2) s2 (ls := none) (v := v) (p := handP c f a d) ?_ hvs g
        · rw [esC_len hpl' hes, hl] at this
          exact this
        · unfold HeadOk handP
          cases hfr : (c.io f && a.fresh c.own) with
          | false =>
            rw [hfr] at hv2
            exact .inl ⟨d, rfl, hv2.rep (fr := false)⟩
          | true =>
            rw [hfr] at hv2
            cases d with
            | lst xs =>
              obtain ⟨q, us, rfl, z1, z2, z3, z4, z5⟩ := hv2
              exact .inr (.inl ⟨xs, q, us, rfl, rfl, z3, z2, z5, z1, z4⟩)
            | dct xs => exact .inr (.inr rfl)
            | _ => exact .inl ⟨_, rfl, hv2⟩
end
end Mi
end
section
/-! every checked expression is sound -/
namespace Mi
open PySem L2 PySem.Spec
theorem star_plain {es : List Expr} {env : Env} {pos : Pos} (h : ∀ x ∈ starEach es env, x.1 = false) : (backTo pos (starEach es env)).any (·.1) = false ∧ (backTo pos (starEach es env)).all (fun x => !x.1) = true := by
  unfold backTo
  generalize starEach es env = l at h
  induction l with
  | nil => exact ⟨rfl, rfl⟩
  | cons x l ih =>
    obtain ⟨a, b⟩ := ih fun y hy => h y (List.mem_cons_of_mem _ hy)
    have hx := h x List.mem_cons_self
    simp only [List.map_cons, List.any_cons, List.all_cons, a, b, hx]
    exact ⟨rfl, rfl⟩
section
variable {m : Nm} {sc : Scope}
theorem chk_nobehind {a : M} {e : Expr} (h : chkE m sc a e = true) (o : CmpOp) : behindInMarks o e = false := by
  cases e <;> first | rfl | skip
  exfalso
  cases a with
  | bool b es => cases es <;> simp [chkE, junkOk] at h
  | px o as => unfold chkE at h; cases o <;> simp [pxC, bcC] at h
  | _ => simp [chkE] at h
theorem chk_plainIx {a : M} {e : Expr} (h : chkE m sc a e = true) : PlainIx e := by
  cases e <;> first | (intro o i; rfl) | skip
  exfalso
  cases a with
  | bool b es => cases es <;> simp [chkE, junkOk] at h
  | px o as => unfold chkE at h; cases o <;> simp [pxC, bcC] at h
  | _ => simp [chkE] at h
theorem chkEs_stars : ∀ {l : Ms} {es : List Expr} (env : Env), chkEs m sc l es = true → noStar l = true → ∀ x ∈ starEach es env, x.1 = false
  | .nil, es, env, h, _ => by
    cases es with
    | nil => intro x hx; cases hx
    | cons _ _ => simp [chkEs] at h
  | .cons s a r, es, env, h, n => by
    cases es with
    | nil => simp [chkEs] at h
    | cons e es =>
      simp only [noStar, Bool.and_eq_true, Bool.not_eq_true'] at n
      obtain ⟨n1, n2⟩ := n
      subst n1
      simp only [chkEs, Bool.false_eq_true, if_false, Bool.and_eq_true] at h
      rw [chk_plain h.1]
      intro x hx
      rcases List.mem_cons.mp hx with hx | hx
      · rw [hx]
      · exact chkEs_stars env h.2 n2 x hx
theorem noSuper_base {e : Expr} (h : noSuper e = true) (x : Str) (env : Env) (w : Sem Value) : attributeBase e x env w = w := by
  cases e <;> first | rfl | skip
  rename_i f es ks pos
  cases es with
  | cons _ _ => first | rfl | (cases f <;> rfl)
  | nil =>
    cases ks with
    | nil => simp [noSuper] at h
    | cons _ _ => first | rfl | (cases f <;> rfl)
end
section
variable {fa : Nat → Option Addr} {xr : XR} {W : WX} {X : Cx} {fr : Bool} {f : CE} {e : Expr}
def Both (fa : Nat → Option Addr) (xr : XR) (W : WX) (X : Cx) (fr : Bool) (f : CE) (e : Expr) : Prop := PE X e (tE fa X.K xr fr W f) ∧ PT X e (tT fa X.K xr W (tru' f))
theorem Both.of (h : PE X e (tE fa X.K xr fr W f)) (he : ∀ whole, isTrue e X.env whole = (do let v ← whole; standAt e.pos; holding [v] (truthy v))) : Both fa xr W X fr f e := ⟨h, pt_plain (pe_weak h) he⟩
theorem Both.junk : Both fa xr W X fr (fun _ => .no) e := ⟨⟨fun pins s σ H Q I ⟨F, ow, e, _, g⟩ => g.elim⟩, ⟨fun pins s σ H Q I ⟨F, ow, e, _, g⟩ => g.elim⟩⟩
end
/-- items by their numbers -/
inductive Pick {α : Type} (t : List α) : List Nat → List α → Prop
  | nil : Pick t [] []
  | cons {k : Nat} {a : α} {ks : List Nat} {as : List α} : t[k]? = some a → Pick t ks as → Pick t (k :: ks) (a :: as)
theorem pickK_vals {ds : List D} : ∀ {ks : List Nat} {ps : List P}, pickK (vals ds) ks = some ps → ∃ ds', ps = vals ds' ∧ Pick ds ks ds'
  | [], ps, h => by cases h; exact ⟨[], rfl, .nil⟩
  | k :: ks, ps, h => by
    unfold pickK at h
    rw [vals_eq, List.getElem?_map] at h
    cases q : ds[k]? with
    | none => rw [q] at h; cases h
    | some d =>
      rw [q] at h
      simp only [Option.map_some] at h
      cases q2 : pickK (List.map P.val ds) ks with
      | none => rw [q2] at h; cases h
      | some r =>
        rw [q2] at h
        cases h
        obtain ⟨ds', e, r'⟩ := pickK_vals (ds := ds) (ks := ks) (ps := r) (by rw [vals_eq]; exact q2)
        exact ⟨d :: ds', by rw [e]; rfl, .cons q r'⟩
section
variable {fa : Nat → Option Addr} {K : PySem.W.Frag} {F : Hp}
theorem Pick.rep {ds : List D} {vs : List V} (r : RepL fa K F ds vs) : ∀ {ks : List Nat} {ds' : List D}, Pick ds ks ds' → ∃ vs', Pick vs ks vs' ∧ RepL fa K F ds' vs'
  | _, _, .nil => ⟨[], .nil, .nil⟩
  | _, _, .cons h q => by
    obtain ⟨v, h1, h2⟩ := r.get h
    obtain ⟨vs', h3, h4⟩ := Pick.rep r q
    exact ⟨v :: vs', .cons h1 h3, .cons h2 h4⟩
theorem Pick.vals {vs : List V} {us : List Value} (r : Vals vs us) : ∀ {ks : List Nat} {vs' : List V}, Pick vs ks vs' → ∃ us', Pick us ks us' ∧ Vals vs' us'
  | _, _, .nil => ⟨[], .nil, .nil⟩
  | _, _, .cons h q => by
    obtain ⟨v, h1, h2⟩ := r.get h
    obtain ⟨vs', h3, h4⟩ := Pick.vals r q
    exact ⟨v :: vs', .cons h1 h3, .cons h2 h4⟩
end
theorem Pick.len {α : Type} {t : List α} : ∀ {ks : List Nat} {as : List α}, Pick t ks as → as.length = ks.length
  | _, _, .nil => rfl
  | _, _, .cons _ q => congrArg (· + 1) q.len
theorem strNodup_nodup : ∀ {l : List Str}, strNodup l = true → l.Nodup
  | [], _ => List.nodup_nil
  | x :: l, h => by
    simp only [strNodup, Bool.and_eq_true, Bool.not_eq_true'] at h
    refine List.nodup_cons.mpr ⟨fun z => ?_, strNodup_nodup h.2⟩
    have : l.contains x = true := by simpa using z
    rw [this] at h; cases h.1
theorem lookup_zip {α : Type} : ∀ {ks : List Str} {vs : List α} {j : Nat} {k : Str} {v : α}, ks.Nodup → ks[j]? = some k → vs[j]? = some v → (ks.zip vs).lookup k = some v
  | [], _, _, _, _, _, h, _ => by simp at h
  | _ :: _, [], _, _, _, _, _, h => by simp at h
  | x :: ks, y :: vs, 0, k, v, n, h1, h2 => by
    simp at h1 h2; subst h1 h2
    simp [List.lookup_cons]
  | x :: ks, y :: vs, j + 1, k, v, n, h1, h2 => by
    rw [List.nodup_cons] at n
    have h1 : ks[j]? = some k := by simpa using h1
    have h2 : vs[j]? = some v := by simpa using h2
    have hb : (k == x) = false := by
      have : k ≠ x := fun z => n.1 (z ▸ List.mem_of_getElem? h1)
      simpa using this
    rw [List.zip_cons_cons, List.lookup_cons, hb]
    exact lookup_zip n.2 h1 h2
theorem lookup_zip_none {α : Type} : ∀ {ks : List Str} {vs : List α} {k : Str}, k ∉ ks → (ks.zip vs).lookup k = none
  | [], _, _, _ => by simp
  | _ :: _, [], _, _ => by simp
  | x :: ks, y :: vs, k, n => by
    have hb : (k == x) = false := by
      have : k ≠ x := fun z => n (z ▸ List.mem_cons_self)
      simpa using this
    rw [List.zip_cons_cons, List.lookup_cons, hb]
    exact lookup_zip_none fun z => n (List.mem_cons_of_mem _ z)
theorem zip_take {α : Type} : ∀ (ps : List Str) (us : List α), ps.zip us = (ps.take us.length).zip us
  | [], us => by simp
  | p :: ps, [] => by simp
  | p :: ps, u :: us => by simp [zip_take ps us]
theorem kwOk_goes {ps ks : List Str} {js : List Nat} {us zs ws : List Value} (h : kwOk ps us.length ks js = true) (hz : ks.length = zs.length) (hp : Pick (us ++ zs) js ws) : Goes ps us (ks.zip zs) ws := by
  unfold kwOk at h
  simp only [Bool.and_eq_true, decide_eq_true_eq] at h
  obtain ⟨⟨⟨⟨h0, h1⟩, h2⟩, h3⟩, h4⟩ := h
  have nd := strNodup_nodup h2
  obtain ⟨n1, n2, n3⟩ := List.nodup_append.mp nd
  have hks : (ks.zip zs).map (·.1) = ks := by
    rw [List.map_fst_zip]
    omega
  have hm : ∀ k ∈ ks.zip zs, k.1 ∈ ks := fun k hk => by rw [← hks]; exact List.mem_map_of_mem hk
  have ht : ps.zip us ++ ks.zip zs = (ps.take us.length ++ ks).zip (us ++ zs) := by
    rw [List.zip_append (by rw [List.length_take]; omega), ← zip_take]
  refine ⟨h1, fun k hk => ?_, fun k hk => ?_, by rw [hks]; exact n2, ?_⟩
  · have := List.all_eq_true.mp h3 k.1 (hm k hk)
    simpa using this
  · rw [zip_take]
    exact lookup_zip_none fun z => n3 _ z _ (hm k hk) rfl
  · rw [ht]
    clear h3 ht hks hm
    have go : ∀ (ps' : List Str) (js : List Nat) (ws : List Value), picksC (ps.take us.length ++ ks) ps' js = true → Pick (us ++ zs) js ws → AllAt ((ps.take us.length ++ ks).zip (us ++ zs)) ps' ws := by
      intro ps'
      induction ps' with
      | nil =>
        intro js ws h4 hp
        cases js with
        | nil => cases hp; exact .nil
        | cons _ _ => simp [picksC] at h4
      | cons p ps' ih =>
        intro js ws h4 hp
        cases js with
        | nil => simp [picksC] at h4
        | cons j js =>
          simp only [picksC, Bool.and_eq_true, decide_eq_true_eq] at h4
          cases hp with
          | cons q1 q2 => exact .cons (lookup_zip nd h4.1 q1) (ih js _ h4.2 q2)
    exact go ps js ws h4 hp
theorem picksC_len {t : List Str} : ∀ {ps : List Str} {js : List Nat}, picksC t ps js = true → js.length = ps.length
  | [], [], _ => rfl
  | [], _ :: _, h => by simp [picksC] at h
  | _ :: _, [], h => by simp [picksC] at h
  | p :: ps, j :: js, h => by
    simp only [picksC, Bool.and_eq_true] at h
    simp [picksC_len h.2]
section
variable {lev : Nat} {fa : Nat → Option Addr} {xr : XR} {m : Nm} {c : Cfg} {sc : Scope} {W : WX} {X : Cx} {F H F1 H1 : Hp} {ow ow1 : Ow} {e : En} {σ : St} {K : PySem.W.Frag}
theorem esC_append : ∀ {l1 l2 : CL} {e : En}, plainCL l1 → esC (l1 ++ l2) e = (esC l1 e).bind fun a e => (esC l2 e).bind fun b e => .ok (a ++ b) e
  | [], l2, e, _ => by
    show esC l2 e = (esC l2 e).bind _
    cases esC l2 e <;> rfl
  | (s, a, f) :: l1, l2, e, h => by
    have hs : s = false := h _ List.mem_cons_self
    subst hs
    show ((f e).bind fun d e => (esC (l1 ++ l2) e).bind fun ds e => Mi.R.ok (d :: ds) e) = (((f e).bind fun d e => (esC l1 e).bind fun ds e => Mi.R.ok (d :: ds) e)).bind _
    rw [R.bind_assoc]
    congr 1
    funext d e1
    rw [esC_append fun x hx => h x (List.mem_cons_of_mem _ hx), R.bind_assoc, R.bind_assoc]
    congr 1
    funext ds e2
    show _ = (esC l2 e2).bind _
    cases esC l2 e2 <;> rfl
/-- a call all of whose parameters are values -/
theorem call_vals {f : Nat} {ds : List D} {vs : List V} {Q : VK} (ev1 : Evo H F ow H1 F1 ow1) (s1 : Gst fa K H1 F1 ow1 e σ) (hne : ds ≠ []) (r : RepL fa K F1 ds vs)
    (g : Good fa K xr W σ H F ow (doCall c f (vals ds) none e) fun d _ H' F' ow' => ∀ v, Vd fa K (c.own f) H H' F' ow' d v → Q v H') : spF fa K xr c f ds.length vs H1 Q (WE W σ) := by
  cases r with
  | nil => exact absurd rfl hne
  | cons r1 r2 => exact call_core ev1 s1 (ls := none) (.inl ⟨_, rfl, r1⟩) r2 g
theorem kwAll (kws : List Keyword) (env : Env) (pos : Pos) : ∀ {ks : List Str}, kwNames kws = some ks → (backToKw pos (keywordEach kws env)).all (·.1.isSome) = true ∧ (backToKw pos (keywordEach kws env)).filterMap (·.1) = ks ∧ (backToKw pos (keywordEach kws env)).any (·.1.isNone) = false := by
  induction kws with
  | nil => intro ks h; cases h; exact ⟨rfl, rfl, rfl⟩
  | cons k kws ih =>
    intro ks h
    obtain ⟨nm, ex, p⟩ := k
    cases nm with
    | none => simp [kwNames] at h
    | some x =>
      simp only [kwNames] at h
      cases q : kwNames kws with
      | none => rw [q] at h; cases h
      | some r =>
        rw [q] at h
        cases h
        obtain ⟨h1, h2, h3⟩ := ih q
        unfold backToKw at h1 h2 h3 ⊢
        simp only [keywordEach, List.map_cons, List.all_cons, List.any_cons, List.filterMap_cons, h1, h2, h3]
        refine ⟨?_, ?_, ?_⟩ <;> simp
theorem snd_callk (C : Ctx lev fa xr m c sc W X) {f : Nat} {x : Str} {l1 l2 : CL} {es : List Expr} {kws : List Keyword} {ks : List Str} {js : List Nat} {p pos : Pos} (hg : isFn m sc f x = true) (hby : m.byN f = true) (hl1 : l1.length = es.length) (p1 : plainCL l1) (hl2 : l2.length = ks.length) (p2 : plainCL l2)
    (ha : PA X es (tA fa X.K xr W (esC l1))) (hk : PK X kws (tA fa X.K xr W (esC l2))) (hks : kwNames kws = some ks) (hne : m.ps f ≠ []) (hok : kwOk (m.ps f) es.length ks js = true)
    (hes : es = [] ∨ ∃ e1 r, es = e1 :: r ∧ starEach (e1 :: r) X.env = (false, eval e1 X.env) :: starEach r X.env ∧ (backTo pos (starEach r X.env)).any (·.1) = false) :
    PE X (.Call (.Name x p) es kws pos) (tE fa X.K xr (c.own f) W (xCallk c f js (l1 ++ l2))) := by
  obtain ⟨g1, g2, a, h1, _, nd, h5⟩ := fn_of C hg
  obtain ⟨k1, k2, k3⟩ := kwAll kws X.env pos hks
  refine ⟨fun pins s σ H Q I h => ?_⟩
  refine wpAny_Call_Name_kw (ld_glob I g1 h1 ?_ g2)
  obtain ⟨F, ow, e, s', g⟩ := h
  have g : Good fa X.K xr W σ H F ow ((esC (l1 ++ l2) e).bind fun ds e => match pickK (vals ds) js with | some ps => doCall c f ps none e | none => .no) _ := g
  rw [esC_append p1, R.bind_assoc] at g
  -- the reading of the arguments
  have key : tA fa X.K xr W (esC l1) σ H fun vs H1 => vs.length = es.length ∧ tA fa X.K xr W (esC l2) σ H1 fun zs H2 => ∀ (us ws : List Value), Vals vs us → Vals zs ws → ∃ (vs' : List V) (ws' : List Value), Vals vs' ws' ∧ Goes (m.ps f) us (ks.zip ws) ws' ∧ spF fa X.K xr c f (m.np f) vs' H2 Q (WE W σ) := by
    refine ⟨F, ow, e, s', ?_⟩
    refine g.bind.see fun ds e1 hr1 H1 F1 ow1 ev1 s1 g1 vs hv => ?_
    have hl : ds.length = l1.length := esC_len p1 hr1
    refine ⟨by rw [← hv.length, hl, hl1], F1, ow1, e1, s1, ?_⟩
    rw [R.bind_assoc] at g1
    refine g1.bind.see fun ds2 e2 hr2 H2 F2 ow2 ev2 s2 g2 zs hz us ws ru rw' => ?_
    have hkl : ks.length = ws.length := by rw [← rw'.length, ← hz.length, esC_len p2 hr2, hl2]
    have g2 : Good fa X.K xr W σ H2 F2 ow2 (match pickK (vals (ds ++ ds2)) js with | some ps => doCall c f ps none e2 | none => .no) _ := g2
    cases hp : pickK (vals (ds ++ ds2)) js with
    | none => rw [hp] at g2; exact g2.elim
    | some ps =>
      rw [hp] at g2
      obtain ⟨ds', rfl, pk⟩ := pickK_vals hp
      have rr : RepL fa X.K F2 (ds ++ ds2) (vs ++ zs) := (hv.mono ev2.mono).append hz
      obtain ⟨vs', pv, rv⟩ := pk.rep rr
      obtain ⟨us', pu, ru'⟩ := pv.vals (ru.append rw')
      have hus : us.length = es.length := by rw [← ru.length, ← hv.length, hl, hl1]
      have hgo := kwOk_goes (ps := m.ps f) (ks := ks) (js := js) (us := us) (zs := ws) (ws := us') (by rw [hus]; exact hok) hkl pu
      refine ⟨vs', us', ru', hgo, ?_⟩
      have hjl : js.length = (m.ps f).length := by
        unfold kwOk at hok
        simp only [Bool.and_eq_true] at hok
        exact picksC_len hok.2
      have hdl : ds'.length = m.np f := by rw [pk.len, hjl]; rfl
      have := call_vals (c := c) (e := e2) (Q := Q) .refl s2 (fun z => hne (List.eq_nil_of_length_eq_zero (by rw [← hjl, ← pk.len, z]; rfl))) rv (g2.mono fun d _ H' F' ow' ev' _ q v hv' => q v (hv'.from fun q h => Classical.byContradiction fun z => ev2.dom q (ev1.dom q z) h))
      rw [hdl] at this
      exact this
  rcases hes with rfl | ⟨e1, r, rfl, he, hpl0⟩
  · obtain ⟨F, ow, e, s', g⟩ := key
    have : l1 = [] := List.eq_nil_of_length_eq_zero (by rw [hl1]; rfl)
    subst this
    obtain ⟨_, q⟩ := Good.ok (e := e) g s' [] .nil
    refine PySem.W.callWith_KW0 (h₀ := X.base) I.ok.mod.kin h5.kp k1 (thn (hk.run pos pins s σ H _ I q) fun ws s2 ⟨zs, H2, I2, rz, q2⟩ => ⟨I2.kIn, ?_⟩) (by rw [k3]; rfl)
    rw [k2]
    obtain ⟨vs', ws', r1, r2, r3⟩ := q2 [] ws .nil rz
    exact h5.run rfl rfl rfl rfl rfl C.hr1 C.tk I2 r1 r2 (fun z => by rw [hby] at z; cases z) r3
  · refine PySem.W.callWith_KW (h₀ := X.base) I.ok.mod.kin h5.kp k1 (thn (ha.run pos pins s σ H _ I key) fun us s1 ⟨vs, H1, I1, r1, q⟩ => ?_) (by rw [k3, he]; show ((false || (backTo pos (starEach r X.env)).any (·.1)) || false) = false; rw [hpl0]; rfl) he
    obtain ⟨_, q⟩ := q
    refine thn (hk.run pos pins s1 σ H1 _ I1 q) fun ws s2 ⟨zs, H2, I2, rz, q2⟩ => ⟨I2.kIn, ?_⟩
    rw [k2]
    obtain ⟨vs', ws', r1, r2, r3⟩ := q2 us ws r1 rz
    exact h5.run rfl rfl rfl rfl rfl C.hr1 C.tk I2 r1 r2 (fun z => by rw [hby] at z; cases z) r3
end
section
variable {fa : Nat → Option Addr} {xr : XR} {W : WX} {X : Cx}
theorem PK.imp {kws : List Keyword} {t t' : TA} (h : PK X kws t) (i : ∀ σ H Q, t' σ H Q → t σ H Q) : PK X kws t' := ⟨fun pos pins s σ H Q I q => h.run pos pins s σ H Q I (i σ H Q q)⟩
theorem snk_nil : PK X [] (tA fa X.K xr W (esC [])) := by
  refine PK.imp pk_nil fun σ H Q ⟨F, ow, env, s, g⟩ => ?_
  exact g H F ow .refl s [] .nil
theorem snk_cons {a : M} {f : CE} {l : CL} {ea : Expr} {kws : List Keyword} {nm : Option Str} {kp : Pos} (ha : PE X ea (tE fa X.K xr false W f)) (hr : PK X kws (tA fa X.K xr W (esC l))) :
    PK X (⟨nm, ea, kp⟩ :: kws) (tA fa X.K xr W (esC ((false, a, f) :: l))) := by
  refine PK.imp (pk_cons ha hr) fun σ H Q ⟨F, ow, env, s, g⟩ => ⟨F, ow, env, s, ?_⟩
  have g : Good fa X.K xr W σ H F ow ((f env).bind fun d e => (esC l e).bind fun ds e => .ok (d :: ds) e) _ := g
  refine g.bind.mono fun d e1 H1 F1 ow1 ev1 s1 g1 v hv => ⟨F1, ow1, e1, s1, ?_⟩
  refine g1.bind.mono fun ds e2 H2 F2 ow2 ev2 s2 g2 vs hvs => ?_
  exact g2 H2 F2 ow2 .refl s2 (v :: vs) (.cons ((hv.rep (fr := false)).mono ev2.mono) hvs)
end
end Mi
end
section
/-! words of several words -/
namespace Mi
open PySem L2 PySem.Spec
section
variable {lev : Nat} {fa : Nat → Option Addr} {xr : XR} {m : Nm} {c : Cfg} {sc : Scope} {W : WX} {X : Cx} {F H F1 H1 : Hp} {ow ow1 : Ow} {σ : St} {K : PySem.W.Frag}
theorem bcC_some {G : GT} {x : Str} {e : Expr} {es : List Expr} {ks : List Keyword} (h : bcC G sc x e = some (es, ks)) : ∃ p pos, e = .Call (.Name x p) es ks pos ∧ glC G sc x .bu = true := by
  unfold bcC at h
  split at h
  · rename_i y p es' ks' pos
    split at h
    · rename_i hc
      rw [Bool.and_eq_true, decide_eq_true_eq] at hc
      obtain ⟨h1, h2⟩ := hc
      subst h1
      have := Option.some.inj h
      cases this
      exact ⟨_, _, rfl, h2⟩
    · cases h
  · cases h
theorem ameth_some {n : Str} {e o : Expr} (h : ameth n e = some o) : ∃ apos pos, e = .Call (.Attribute o n apos) [] [] pos ∧ noSuper o = true ∧ (apos.endLine == pos.line) = true := by
  unfold ameth at h
  split at h
  · split at h
    · rename_i hc
      simp only [Bool.and_eq_true, decide_eq_true_eq] at hc
      obtain ⟨⟨h1, h2⟩, h3⟩ := hc
      subst h1
      cases h
      exact ⟨_, _, rfl, h2, h3⟩
    · cases h
  · cases h
/-- a built-in's name is the built-in -/
theorem bu_of (C : Ctx lev fa xr m c sc W X) {x : Str} (h : glC m.G sc x .bu = true) : Gl X x ∧ X.mg x = none ∧ (x == ("__debug__" : Str)) = false ∧ x ≠ "__name__" := by
  unfold glC at h
  simp only [Bool.and_eq_true, decide_eq_true_eq] at h
  obtain ⟨n1, _, n3⟩ := node_of h.2
  exact ⟨C.glo _ h.1.1, C.bu _ h.1.2, n1, n3⟩
/-- one argument of a built-in class, by what it does with the value -/
theorem pe_ty1 {x : Str} {T : String} {ea : Expr} {ta : TE} {R : V → Hp → VK → Prop} {p pos : Pos} (hR : ∀ pins s σ H v u Q, Inv X pins σ H s → RelV v u → R v H Q → wpAny (model X.prog X.w) X.A (call (.type T) [u]) (EP X pins σ Q) X.xe s)
    (hg : Gl X x ∧ X.mg x = none ∧ (x == ("__debug__" : Str)) = false ∧ x ≠ "__name__") (hv : bootBuiltins x = some (.type T)) (ha : PE X ea ta) (he : starEach [ea] X.env = (false, eval ea X.env) :: starEach [] X.env) :
    PE X (.Call (.Name x p) [ea] [] pos) (fun σ H Q => ta σ H fun v H1 => R v H1 Q) := by
  obtain ⟨g1, g2, g3, g4⟩ := hg
  refine ⟨fun pins s σ H Q I h => ?_⟩
  refine wpAny_Call_Name_kw (ld_blt I g1 g2 hv ?_ g4 g3)
  exact PyProof.Rows.callWith_type1 (one_arg ha I h (fun u s2 v H2 I2 r q => hR pins s2 σ H2 v u Q I2 r q) he) he (by rfl)
theorem xPx0 {o : Px} {e : En} : xPx o [] e = lift (pxD o []) e := rfl
theorem xPx1 {o : Px} {a : M} {f : CE} {e : En} : xPx o [(false, a, f)] e = (f e).bind fun d e => lift (pxD o [d]) e := by
  show (((f e).bind fun d e => (Mi.R.ok [] e : Mi.R (List Mi.D)).bind fun ds e => Mi.R.ok (d :: ds) e)).bind _ = _
  rw [R.bind_assoc]
  rfl
theorem xPx2 {o : Px} {a b : M} {f g : CE} {e : En} : xPx o [(false, a, f), (false, b, g)] e = (f e).bind fun d e => (g e).bind fun d2 e => lift (pxD o [d, d2]) e := by
  show (((f e).bind fun d e => (((g e).bind fun d e => (Mi.R.ok [] e : Mi.R (List Mi.D)).bind fun ds e => Mi.R.ok (d :: ds) e)).bind fun ds e => Mi.R.ok (d :: ds) e)).bind _ = _
  rw [R.bind_assoc]
  congr 1
  funext d e1
  rw [R.bind_assoc, R.bind_assoc]
  rfl
/-- {} -/
theorem px_dnew {pos : Pos} : PE X (.Dict [] [] pos) (tE fa X.K xr true W (xPx .dnew [])) := by
  refine PE.imp pe_dnewK fun σ H Q ⟨F, ow, env, s, g⟩ p hp => ?_
  have g : Good fa X.K xr W σ H F ow (Mi.R.ok (Mi.D.dct []) env : Mi.R Mi.D) _ := g
  exact g.pstD s (fun _ h => h) hp .nil
theorem keyD_kD : ∀ k : Key, keyD (kD k) = some k | .inl _ => rfl | .inr _ => rfl
theorem pairs_rep {F H : Hp} (hF : Sub F H) : ∀ {ds : List D} {vs : List V} {kds : List (Key × D)}, RepL fa K F ds vs → pairKs ds = some kds → ∃ (ps : List Addr) (ws : List (Key × V)), vs = ps.map V.ref ∧ Paired (fun p kv => SqT K H p [kV kv.1, kv.2]) ps ws ∧ RepK fa K F kds ws
  | _, _, _, .nil, h => by cases h; exact ⟨[], [], rfl, .nil, .nil⟩
  | d :: ds, v :: vs, kds, .cons r rr, h => by
    unfold pairKs at h
    split at h
    · rename_i h0; cases h0
    · rename_i k w rest h0
      cases h0
      cases hk : keyD k with
      | none => rw [hk] at h; cases h
      | some kk =>
        rw [hk] at h
        simp only at h
        cases hp : pairKs ds with
        | none => rw [hp] at h; cases h
        | some r' =>
          rw [hp] at h
          cases h
          obtain ⟨ps, ws, e1, e2, e3⟩ := pairs_rep hF rr hp
          cases r with
          | tup q1 q2 =>
            cases q2 with
            | cons a1 a2 =>
              cases a2 with
              | cons b1 b2 =>
                cases b2
                obtain ⟨y1, y2⟩ := a1.keyK hk
                subst y1
                exact ⟨_ :: ps, _ :: ws, by rw [e1]; rfl, .cons (SqT.sub hF q1) e2, .cons y2 b1 e3⟩
    · cases h
/-- dict(d) -/
theorem px_dict (C : Ctx lev fa xr m c sc W X) {a : M} {f : CE} {ea : Expr} {p pos : Pos} (hg : glC m.G sc "dict" .bu = true) (ha : PE X ea (tE fa X.K xr false W f)) (he : starEach [ea] X.env = (false, eval ea X.env) :: starEach [] X.env) :
    PE X (.Call (.Name "dict" p) [ea] [] pos) (tE fa X.K xr true W (xPx .dict [(false, a, f)])) := by
  have hc : CallR X (.type "dict") _ := call_dictD
  have hc2 : CallR X (.type "dict") _ := call_dictP C.calm
  refine (pe_ty1 (T := "dict") (R := fun v H Q => (∃ (a : Addr) (kvs : List (Key × V)), v = .ref a ∧ Rd H a (.dK kvs) ∧ ∀ p, H p = none → Q (.ref p) (upd H p (.dK kvs))) ∨
      ∃ (a : Addr) (ps : List Addr) (kvs : List (Key × V)), v = .ref a ∧ SqL X.K H a (ps.map V.ref) ∧ Paired (fun p kv => SqT X.K H p [kV kv.1, kv.2]) ps kvs ∧ ∀ p, H p = none → Q (.ref p) (upd H p (.dK (mergeK [] kvs)))) (fun pins s σ H v u Q I r h => ?_) (bu_of C hg) (by decide +kernel) ha he).imp fun σ H Q ⟨F, ow, env, s, g⟩ => ⟨F, ow, env, s, ?_⟩
  · rcases h with ⟨a, kvs, e1, e2, e3⟩ | ⟨a, ps, kvs, e1, e2, e3, e4⟩
    · exact hc pins s σ H [v] [u] Q I (.cons r .nil) ⟨a, kvs, by rw [e1], e2, e3⟩
    · exact hc2 pins s σ H [v] [u] Q I (.cons r .nil) ⟨a, ps, kvs, by rw [e1], e2, e3, e4⟩
  rw [xPx1] at g
  refine g.bind.mono fun d e1 H1 F1 ow1 ev1 s1 g1 v hv => ?_
  obtain ⟨x, ex, g1⟩ := g1.lift
  have hv := hv.rep (fr := false)
  cases hv with
  | dct h1 r1 => cases ex; exact .inl ⟨_, _, rfl, .inl (s1.sub _ _ h1), fun p hp => g1.pstD s1 ev1.dom hp r1⟩
  | lst h1 r1 =>
    simp only [pxD] at ex
    cases hp : pairKs ‹List Mi.D› with
    | none => rw [hp] at ex; cases ex
    | some kvs =>
      rw [hp] at ex
      cases ex
      obtain ⟨ps, ws, e1, e2, e3⟩ := pairs_rep s1.sub r1 hp
      subst e1
      exact .inr ⟨_, ps, ws, rfl, rd_of s1.sub h1, e2, fun p hp => g1.pstD s1 ev1.dom hp (e3.putAll .nil)⟩
  | _ => cases ex
theorem rngI_rep {F : Hp} {i j : Int} : RepL fa K F (rngI i j) (rgV i j) := by
  unfold rngI rgV
  generalize (List.range (j - i).toNat) = l
  induction l with
  | nil => exact .nil
  | cons x l ih => exact .cons (.int _) ih
theorem rgOk_of {i j : Int} (h : -bigR ≤ i ∧ i < bigR ∧ -bigR ≤ j ∧ j < bigR) : RgOk i j := by
  unfold bigR at h
  refine ⟨by omega, by omega, by omega, by omega, by omega⟩
/-- list(range(a)), list(range(a, b)) -/
theorem px_rng1 (C : Ctx lev fa xr m c sc W X) {a : M} {f : CE} {ea : Expr} {p p2 pos pos2 : Pos} (hg : glC m.G sc "list" .bu = true) (hg2 : glC m.G sc "range" .bu = true) (ha : PE X ea (tE fa X.K xr false W f)) (he : starEach [ea] X.env = (false, eval ea X.env) :: starEach [] X.env) :
    PE X (.Call (.Name "list" p) [.Call (.Name "range" p2) [ea] [] pos2] [] pos) (tE fa X.K xr true W (xPx .rng1 [(false, a, f)])) := by
  obtain ⟨g1, g2, _, _⟩ := bu_of C hg
  obtain ⟨k1, k2, _, _⟩ := bu_of C hg2
  refine PE.imp (pe_listRg C.calm g1 g2 (prg_1 k1 k2 ha he)) fun σ H Q ⟨F, ow, env, s, g⟩ => ⟨F, ow, env, s, ?_⟩
  rw [xPx1] at g
  refine g.bind.mono fun d e1 H1 F1 ow1 ev1 s1 g1 v hv => ?_
  obtain ⟨x, ex, g1⟩ := g1.lift
  have hv := hv.rep (fr := false)
  cases hv with
  | int j =>
    simp only [pxD] at ex
    split at ex
    · rename_i hz
      cases ex
      refine ⟨j, rfl, rgOk_of ⟨by unfold bigR; decide, by unfold bigR; decide, hz.1, hz.2⟩, fun q hq => ?_⟩
      exact Good.pst g1 s1 ev1.dom (fun _ kvs z => by cases z) q _ hq rngI_rep
    · cases ex
  | _ => cases ex
theorem px_rng2 (C : Ctx lev fa xr m c sc W X) {a b : M} {f f2 : CE} {ea eb : Expr} {p p2 pos pos2 : Pos} (hg : glC m.G sc "list" .bu = true) (hg2 : glC m.G sc "range" .bu = true) (ha : PE X ea (tE fa X.K xr false W f)) (hb : PE X eb (tE fa X.K xr false W f2))
    (he : starEach [ea, eb] X.env = (false, eval ea X.env) :: starEach [eb] X.env) (he2 : starEach [eb] X.env = (false, eval eb X.env) :: starEach [] X.env) :
    PE X (.Call (.Name "list" p) [.Call (.Name "range" p2) [ea, eb] [] pos2] [] pos) (tE fa X.K xr true W (xPx .rng2 [(false, a, f), (false, b, f2)])) := by
  obtain ⟨g1, g2, _, _⟩ := bu_of C hg
  obtain ⟨k1, k2, _, _⟩ := bu_of C hg2
  refine PE.imp (pe_listRg C.calm g1 g2 (prg_2 k1 k2 ha hb he he2 (by rw [he2]; rfl))) fun σ H Q ⟨F, ow, env, s, g⟩ => ⟨F, ow, env, s, ?_⟩
  rw [xPx2] at g
  refine g.bind.mono fun d e1 H1 F1 ow1 ev1 s1 g1 v hv => ⟨F1, ow1, e1, s1, ?_⟩
  refine g1.bind.mono fun d2 e2 H2 F2 ow2 ev2 s2 g2 w hw => ?_
  obtain ⟨x, ex, g2⟩ := g2.lift
  have hv := hv.rep (fr := false)
  have hw := hw.rep (fr := false)
  cases hv with
  | int i =>
    cases hw with
    | int j =>
      simp only [pxD] at ex
      split at ex
      · rename_i hz
        cases ex
        refine ⟨i, j, rfl, rfl, rgOk_of hz, fun q hq => ?_⟩
        exact Good.pst g2 s2 (fun a h => ev2.dom a (ev1.dom a h)) (fun _ kvs z => by cases z) q _ hq rngI_rep
      · cases ex
    | _ => cases ex
  | _ => cases ex
theorem pairedGet {α β : Type} {R : α → β → Prop} : ∀ {l : List α} {r : List β}, Paired R l r → ∀ {j : Nat} {x : α}, l[j]? = some x → ∃ y, r[j]? = some y ∧ R x y
  | _, _, .nil, j, x, h => by simp at h
  | _, _, .cons h t, 0, x, q => by simp at q; exact ⟨_, rfl, q ▸ h⟩
  | _, _, .cons h t, j + 1, x, q => by simp at q; obtain ⟨y, y1, y2⟩ := pairedGet t q; exact ⟨y, by simpa using y1, y2⟩
/-- tuple(d.values()) -/
theorem px_tvals (C : Ctx lev fa xr m c sc W X) {a : M} {f : CE} {ea : Expr} {p pos apos pos2 : Pos} (hg : glC m.G sc "tuple" .bu = true) (ha : PE X ea (tE fa X.K xr false W f)) (hn : noSuper ea = true) (hl : (apos.endLine == pos2.line) = true)
    (he : starEach [.Call (.Attribute ea "values" apos) [] [] pos2] X.env = (false, eval (.Call (.Attribute ea "values" apos) [] [] pos2) X.env) :: starEach [] X.env) :
    PE X (.Call (.Name "tuple" p) [.Call (.Attribute ea "values" apos) [] [] pos2] [] pos) (tE fa X.K xr false W (xPx .tvals [(false, a, f)])) := by
  obtain ⟨g1, g2, g3, g4⟩ := bu_of C hg
  have key : PE X (.Call (.Name "tuple" p) [.Call (.Attribute ea "values" apos) [] [] pos2] [] pos) (fun σ H Q => tE fa X.K xr false W f σ H fun x H1 => ∃ d kvs, x = .ref d ∧ Rd H1 d (.dK kvs) ∧ ∀ q, H1 q = none → Q (.ref q) (upd H1 q (.tup (kvs.map (·.2))))) := by
    refine ⟨fun pins s σ H Q I h => ?_⟩
    refine wpAny_Call_Name_kw (ld_blt I g1 g2 PyProof.Rows.boot_tuple ?_ g4 g3)
    refine PyProof.Rows.callWith_type1 (PyProof.Rows.args_cons ?_ he) he (by rfl)
    refine wpAny_Call_method (T := "dict") (id := "dict.values") (noSuper_base hn _ _ _) rfl hl F.plainAttrs_dict F.slot_dict_values F.type_dict_values (thn (ha.run pins s σ H _ I h) fun u s1 ⟨x, H1, I1, rx, d, kvs, ex, hd, q⟩ => ?_)
    subst ex
    obtain rfl : u = Value.ref d := rx
    obtain ⟨z, lo, vs, rel, dd⟩ := dk_rd I1.hok hd
    obtain ⟨ep, hat⟩ := dd.dictAt
    have hl : kvs.length = vs.length := rel.length
    have I2 : Inv X pins σ H1 { s1 with heap := s1.heap.push { cls := .type "dict_values", data := .fields #[.ref d] } } := I1.kept (t' := s1.toks) fun b ob q => Heap.get?_push_of_some _ q
    refine ⟨dd.typeIs, dd.mapOf.noDict, ?_⟩
    show wpAny _ _ (callWith pos2 (.builtin "dict.values") [.ref d] [] []) _ X.xe s1
    refine method_meetsIn F.slot_dict_values F.entry_dict_values rfl (PySem.evalArgs_none ⟨rfl, dd.typeIs, F.args_dict_values_1 _, _, meets_dict_values (mixKind X.prog X.w) d lo, ⟨vs, dd⟩, ?_⟩)
    refine PyProof.Rows.args_nil ?_
    refine tuple_src (PySem.W.kdl_values (knd := mixKind X.prog X.w) (r := s1.heap.objs.size) (d := d) (kvs := vs) (ep := ep)) (I1.ok.hd C.calm) ⟨⟨_, Heap.get?_push_size _ rfl, rfl, rfl⟩, hat.push _⟩ (by omega) fun h' tk acc hk hacc => ?_
    have I3 : Inv X pins σ H1 { s1 with heap := h', toks := tk } := I2.kept hk
    have hv : Vals (kvs.map (·.2)) acc.toList := by
      refine vals_of_at (by have := hacc.1; simp; omega) fun j x w h1 h2 => ?_
      obtain ⟨k, e1⟩ := hacc.2 j w (by rw [← Array.getElem?_toList]; exact h2)
      rw [List.getElem?_map] at h1
      cases hq : kvs[j]? with
      | none => rw [hq] at h1; cases h1
      | some z =>
        rw [hq] at h1
        cases h1
        obtain ⟨y, y1, y2⟩ := pairedGet rel hq
        rw [e1] at y1
        cases y1
        exact y2.2
    exact ⟨.ref h'.objs.size, _, I3.laid (t' := tk) (fun b o e => Heap.get?_push_of_some _ e) (Nat.le_refl _) (show ObjOk X.prog X.w _ _ _ (.tup (kvs.map (·.2))) from ⟨by rw [List.length_map]; exact z, acc.toList, hv, by simpa using PyProof.Rows.IsTup.new _ _⟩), rfl, q _ (I3.hok.fresh (Nat.le_refl _))⟩
  refine key.imp fun σ H Q ⟨F, ow, env, s, g⟩ => ⟨F, ow, env, s, ?_⟩
  rw [xPx1] at g
  refine g.bind.mono fun d e1 H1 F1 ow1 ev1 s1 g1 v hv => ?_
  obtain ⟨x, ex, g1⟩ := g1.lift
  have hv := hv.rep (fr := false)
  cases hv with
  | dct h1 r1 =>
    simp only [pxD] at ex
    split at ex
    · cases ex
      exact ⟨_, _, rfl, .inl (s1.sub _ _ h1), fun q hq => Out.tup (Good.out g1 s1) s1.sub hq r1.vals⟩
    · cases ex
  | _ => cases ex
end
end Mi
end
section
/-! dict(zip(a, b)) of lists and tuples -/
namespace PySem
open Sem (wp)
section
variable {prog : Program} {w : World} {A : Around} {E : Value → Shared → Prop} {s : Shared} {z TI TO T i1 i2 : Addr} {f1 f2 : List Addr} {n1 n2 i : Nat} {P1 P2 : Nat → Value → Prop} {S1 S2 : Nat → Heap → Prop} {f : Bool} {oT : Obj}
/-- a turn of a zip whose tuple is still out -/
theorem mi_held_item {Q : Value → Shared → Prop} (S : ZipSep2 z TI TO i1 i2 f1 f2) (D1 : Draws prog w A i1 f1 n1 P1 S1) (D2 : Draws prog w A i2 f2 n2 P2 S2)
    (hz : IsZipHeld s.heap z TI TO T f) (hT : s.heap.get? T = some oT) (hTI : IsTupOf2 s.heap TI (.ref i1) (.ref i2)) (st1 : S1 i s.heap) (st2 : S2 i s.heap) (hl1 : i < n1) (hl2 : i < n2)
    (hQ : ∀ x1 x2 h' tk, P1 i x1 → P2 i x2 → IsZipHeld h' z TI TO T true → S1 (i + 1) h' → S2 (i + 1) h' → IsTupOf2 h' s.heap.objs.size x1 x2 →
      (∀ c o, c ≠ z → c ≠ i1 → c ≠ i2 → s.heap.get? c = some o → h'.get? c = some o) → Q (.ref s.heap.objs.size) { s with heap := h', toks := tk }) :
    wpAny (model prog w) A (Builtin.«zip.__next__» ⟨[.ref z], []⟩) (fun fin s' => ∃ v, fin = .done (.ret v) ∧ Q v s') E s := by
  obtain ⟨hp, g, d, t0, os⟩ := s
  refine wpAny_bind (m := field (.ref z) 2) (wpAny_field hz rfl (x := .bool false) rfl ?_)
  refine wpAny_bind (m := field (.ref z) 3) (wpAny_field hz rfl (x := .ref TI) rfl ?_)
  refine wpAny_bind (wpAny_seqItems hTI rfl ?_)
  refine wpAny_bind (m := Builtin.SmallTypes.ownedTupleIsFree (.ref z)) (wpAny_tupleHeld_zip hz hT fun g0 hz0 k0 => ?_)
  replace k0 : Heap.SameBut z hp g0 := k0
  rw [if_neg (show ¬ (false = true) from Bool.false_ne_true)]
  refine wpAny_bind ?_
  rw [← Array.forIn_toList]
  simp only [List.forIn_cons, List.forIn_nil]
  refine wpAny_bind (wpAny_bind (wpAny_holding ?_))
  refine wpAny_bind (m := Builtin.SmallTypes.nextOf (.ref i1)) (D1.item i ⟨g0, g, d, t0, os⟩ _ _ hl1 (D1.over st1 k0 S.zf1) fun x1 g1 t1 y1 r1 k1 => wpAny_pure ?_)
  replace k1 : Heap.SameBut i1 g0 g1 := k1
  refine wpAny_pure ?_
  refine wpAny_bind (wpAny_bind (wpAny_holding ?_))
  refine wpAny_bind (m := Builtin.SmallTypes.nextOf (.ref i2)) (D2.item i ⟨g1, g, d, t1, os⟩ _ _ hl2 (D2.over (D2.over st2 k0 S.zf2) k1 S.sep1_2) fun x2 g2 t2 y2 r2 k2 => wpAny_pure ?_)
  replace k2 : Heap.SameBut i2 g1 g2 := k2
  refine wpAny_pure (wpAny_pure ?_)
  refine wpAny_bind (m := newTuple [x1, x2]) (wpAny_newTuple ?_)
  have hsz : g2.objs.size = hp.objs.size := by rw [k2.1, k1.1, k0.1]
  have hzz : IsZipHeld g2 z TI TO T true := k2.extBut _ _ S.zi2 (k1.extBut _ _ S.zi1 hz0)
  have hk : ∀ c o, c ≠ z → c ≠ i1 → c ≠ i2 → hp.get? c = some o → g2.get? c = some o := fun c o c0 c1 c2 e => k2.extBut _ _ c2 (k1.extBut _ _ c1 (k0.extBut _ _ c0 e))
  refine wpAny_pure ⟨_, rfl, ?_⟩
  show Q (.ref g2.objs.size) _
  have hp1 : IsTupOf2 (g2.push { cls := .type "tuple", data := .seq #[x1, x2] }) g2.objs.size x1 x2 := Heap.get?_push_size _ rfl
  rw [hsz] at hp1 ⊢
  exact hQ x1 x2 _ t2 y1 y2 (Heap.get?_push_of_some _ hzz) (D1.frame _ _ _ (D1.over r1 k2 S.sep2_1) fun b _ o e => Heap.get?_push_of_some _ e) (D2.frame _ _ _ r2 fun b _ o e => Heap.get?_push_of_some _ e) hp1 fun c o c0 c1 c2 e => Heap.get?_push_of_some _ (hk c o c0 c1 c2 e)
theorem mi_held_end {Q : Fin → Shared → Prop} (S : ZipSep2 z TI TO i1 i2 f1 f2) (D1 : Draws prog w A i1 f1 n1 P1 S1) (D2 : Draws prog w A i2 f2 n2 P2 S2)
    (hz : IsZipHeld s.heap z TI TO T f) (hT : s.heap.get? T = some oT) (hTI : IsTupOf2 s.heap TI (.ref i1) (.ref i2)) (st1 : S1 i s.heap) (st2 : S2 i s.heap) (hl1 : i ≤ n1) (hl2 : i ≤ n2) (hend : i = n1 ∨ i = n2)
    (hE : ∀ h' tk e, (∀ c o, c ≠ z → c ≠ i1 → c ≠ i2 → s.heap.get? c = some o → h'.get? c = some o) → (∃ o, h'.get? e = some o ∧ o.cls = .type "StopIteration") → E (.ref e) { s with heap := h', toks := tk }) :
    wpAny (model prog w) A (Builtin.«zip.__next__» ⟨[.ref z], []⟩) Q E s := by
  obtain ⟨hp, g, d, t0, os⟩ := s
  refine wpAny_bind (m := field (.ref z) 2) (wpAny_field hz rfl (x := .bool false) rfl ?_)
  refine wpAny_bind (m := field (.ref z) 3) (wpAny_field hz rfl (x := .ref TI) rfl ?_)
  refine wpAny_bind (wpAny_seqItems hTI rfl ?_)
  refine wpAny_bind (m := Builtin.SmallTypes.ownedTupleIsFree (.ref z)) (wpAny_tupleHeld_zip hz hT fun g0 hz0 k0 => ?_)
  replace k0 : Heap.SameBut z hp g0 := k0
  rw [if_neg (show ¬ (false = true) from Bool.false_ne_true)]
  refine wpAny_bind ?_
  rw [← Array.forIn_toList]
  simp only [List.forIn_cons, List.forIn_nil]
  refine wpAny_bind (wpAny_bind (wpAny_holding ?_))
  by_cases q1 : i < n1
  · refine wpAny_bind (m := Builtin.SmallTypes.nextOf (.ref i1)) (D1.item i ⟨g0, g, d, t0, os⟩ _ _ q1 (D1.over st1 k0 S.zf1) fun x1 g1 t1 y1 r1 k1 => wpAny_pure ?_)
    replace k1 : Heap.SameBut i1 g0 g1 := k1
    have q2 : i = n2 := by omega
    refine wpAny_pure ?_
    refine wpAny_bind (wpAny_bind (wpAny_holding ?_))
    refine wpAny_bind (m := Builtin.SmallTypes.nextOf (.ref i2)) (D2.done ⟨g1, g, d, t1, os⟩ _ _ (by rw [← q2]; exact D2.over (D2.over st2 k0 S.zf2) k1 S.sep1_2) fun g2 e k2 he => ?_)
    exact hE g2 t1 e (fun c o c0 c1 c2 x => k2 _ _ c2 (k1.extBut _ _ c1 (k0.extBut _ _ c0 x))) he
  · have q2 : i = n1 := by omega
    refine wpAny_bind (m := Builtin.SmallTypes.nextOf (.ref i1)) (D1.done ⟨g0, g, d, t0, os⟩ _ _ (by rw [← q2]; exact D1.over st1 k0 S.zf1) fun g2 e k2 he => ?_)
    exact hE g2 t0 e (fun c o c0 c1 _ x => k2 _ _ c1 (k0.extBut _ _ c0 x)) he
theorem mi_next_item {Q : Option Value → Shared → Prop} (S : ZipSep2 z TI TO i1 i2 f1 f2) (D1 : Draws prog w A.in1 i1 f1 n1 P1 S1) (D2 : Draws prog w A.in1 i2 f2 n2 P2 S2)
    (hz : IsZipHeld s.heap z TI TO T f) (hT : s.heap.get? T = some oT) (hTI : IsTupOf2 s.heap TI (.ref i1) (.ref i2)) (st1 : S1 i s.heap) (st2 : S2 i s.heap) (hl1 : i < n1) (hl2 : i < n2)
    (hQ : ∀ x1 x2 h' tk, P1 i x1 → P2 i x2 → IsZipHeld h' z TI TO T true → S1 (i + 1) h' → S2 (i + 1) h' → IsTupOf2 h' s.heap.objs.size x1 x2 →
      (∀ c o, c ≠ z → c ≠ i1 → c ≠ i2 → s.heap.get? c = some o → h'.get? c = some o) → Q (some (.ref s.heap.objs.size)) { s with heap := h', toks := tk }) :
    wpAny (model prog w) A (pyNext (.ref z)) Q E s := by
  have ty : s.TypeIs (.ref z) "zip" := ⟨_, hz, rfl⟩
  unfold pyNext
  exact wpAny_bind (wpAny_attempt (wpAny_callSpecial?_slot (name := Str.ofString "__next__") ty F.slot_zip_next
    (wpAny_call_entry F.slot_zip_next ty F.entry_zip_next (mi_held_item S D1 D2 hz hT hTI st1 st2 hl1 hl2 fun x1 x2 h' tk y1 y2 b1 b2 b3 b4 b5 => wpAny_pure (hQ x1 x2 h' tk y1 y2 b1 b2 b3 b4 b5)) (F.args_zip_next_1 _))))
theorem mi_next_end {Q : Option Value → Shared → Prop} (S : ZipSep2 z TI TO i1 i2 f1 f2) (D1 : Draws prog w A.in1 i1 f1 n1 P1 S1) (D2 : Draws prog w A.in1 i2 f2 n2 P2 S2)
    (hz : IsZipHeld s.heap z TI TO T f) (hT : s.heap.get? T = some oT) (hTI : IsTupOf2 s.heap TI (.ref i1) (.ref i2)) (st1 : S1 i s.heap) (st2 : S2 i s.heap) (hl1 : i ≤ n1) (hl2 : i ≤ n2) (hend : i = n1 ∨ i = n2)
    (hQ : ∀ h' tk, (∀ c o, c ≠ z → c ≠ i1 → c ≠ i2 → s.heap.get? c = some o → h'.get? c = some o) → Q none { s with heap := h', toks := tk }) : wpAny (model prog w) A (pyNext (.ref z)) Q E s := by
  have ty : s.TypeIs (.ref z) "zip" := ⟨_, hz, rfl⟩
  unfold pyNext
  refine wpAny_bind (wpAny_attempt (wpAny_callSpecial?_slot (name := Str.ofString "__next__") ty F.slot_zip_next
    (wpAny_call_entry F.slot_zip_next ty F.entry_zip_next (mi_held_end S D1 D2 hz hT hTI st1 st2 hl1 hl2 hend fun h' tk e hk he => ?_) (F.args_zip_next_1 _))))
  obtain ⟨o, ho, hc⟩ := he
  refine wpAny_bind (wpAny_isInstance (T := "StopIteration") (b := true) ⟨o, ho, hc⟩ isSubtype_stop (wpAny_pure (hQ _ _ hk)))
/-- zip over two iterators of any kind as pairs for dict() -/
theorem mi_pairs_zip (S : ZipSep2 z TI TO i1 i2 f1 f2) (D1 : ∀ A : Around, A.handled = none → Draws prog w A i1 f1 n1 P1 S1) (D2 : ∀ A : Around, A.handled = none → Draws prog w A i2 f2 n2 P2 S2)
    (live1 : ∀ h, S1 0 h → ∀ b ∈ f1, ∃ o, h.get? b = some o) (live2 : ∀ h, S2 0 h → ∀ b ∈ f2, ∃ o, h.get? b = some o) (A0 : Around) (hA0 : A0.handled = none) :
    PairArg prog w "zip" z ([z, TI, TO] ++ f1 ++ f2) [z, TO, i1, i2] (min n1 n2) (fun i k v => P1 i k ∧ P2 i v)
      (fun h => IsZip h z TI TO .none ∧ IsTupOf2 h TI (.ref i1) (.ref i2) ∧ (∃ a b, IsTupOf2 h TO a b) ∧ S1 0 h ∧ S2 0 h) where
  type := fun s ok => ⟨_, ok.1, rfl⟩
  notDict := by decide
  keep := fun h h' ok hk => by
    obtain ⟨h0, h1, ⟨a, b, h2⟩, h3, h4⟩ := ok
    exact ⟨hk _ _ h0, hk _ _ h1, ⟨a, b, hk _ _ h2⟩, (D1 A0 hA0).frame _ _ _ h3 fun c _ o e => hk c o e, (D2 A0 hA0).frame _ _ _ h4 fun c _ o e => hk c o e⟩
  there := fun h ok b hb => by
    obtain ⟨h0, h1, ⟨a, c, h2⟩, h3, h4⟩ := ok
    rcases List.mem_append.mp hb with hb | hb
    · rcases List.mem_append.mp hb with hb | hb
      · simp only [List.mem_cons, List.not_mem_nil, or_false] at hb
        rcases hb with rfl | rfl | rfl
        · exact ⟨_, h0⟩
        · exact ⟨_, h1⟩
        · exact ⟨_, h2⟩
      · exact live1 h h3 b hb
    · exact live2 h h4 b hb
  sub := fun b hb => by
    simp only [List.mem_cons, List.not_mem_nil, or_false] at hb
    rcases hb with rfl | rfl | rfl | rfl
    · simp
    · simp
    · exact List.mem_append_left _ (List.mem_append_right _ S.mem1)
    · exact List.mem_append_right _ S.mem2
  noKeys := fun A s Q E hA ok h => getAttrOr_miss_zip ok.1 rfl rfl rfl zip_no_keys (by decide +kernel) hA h
  iter := fun A s d Q E hA ok hd hdf h => by
    obtain ⟨h0, h1, ⟨a, b, h2⟩, h3, h4⟩ := ok
    have d0 : d ≠ z := fun e => hdf (by simp [e])
    have dI : d ≠ TI := fun e => hdf (by simp [e])
    have dO : d ≠ TO := fun e => hdf (by simp [e])
    have e1 : d ∉ f1 := fun e => hdf (List.mem_append_left _ (List.mem_append_right _ e))
    have e2 : d ∉ f2 := fun e => hdf (List.mem_append_right _ e)
    have d1 : d ≠ i1 := fun e => e1 (by rw [e]; exact S.mem1)
    have d2 : d ≠ i2 := fun e => e2 (by rw [e]; exact S.mem2)
    refine wpAny_pyIter_zip h0 (h z [z, TO, i1, i2] (fun i h => IsTupOf2 h TI (.ref i1) (.ref i2) ∧ S1 i h ∧ S2 i h ∧
      ((IsZip h z TI TO .none ∧ ∃ a b, IsTupOf2 h TO a b) ∨ ∃ T f oT, IsZipHeld h z TI TO T f ∧ h.get? T = some oT ∧ T ≠ z ∧ T ≠ i1 ∧ T ≠ i2 ∧ T ≠ d)) s.heap s.toks ?_ ⟨h1, h3, h4, .inl ⟨h0, a, b, h2⟩⟩ (fun _ _ e => e) fun b hb => .inl hb)
    exact {
      off := fun hm => by
        simp only [List.mem_cons, List.not_mem_nil, or_false] at hm
        rcases hm with e | e | e | e
        · exact d0 e
        · exact dO e
        · exact d1 e
        · exact d2 e
      frame := fun i g g' st hk => by
        obtain ⟨q1, q3, q4, hz⟩ := st
        refine ⟨hk _ _ (Ne.symm dI) q1, (D1 A hA).frame _ _ _ q3 fun c hc o e => hk c o (fun x => e1 (x ▸ hc)) e, (D2 A hA).frame _ _ _ q4 fun c hc o e => hk c o (fun x => e2 (x ▸ hc)) e, ?_⟩
        rcases hz with ⟨q0, a, b, q2⟩ | ⟨T, f, oT, q0, hT, r1, r2, r3, r4⟩
        · exact .inl ⟨hk _ _ (Ne.symm d0) q0, a, b, hk _ _ (Ne.symm dO) q2⟩
        · exact .inr ⟨T, f, oT, hk _ _ (Ne.symm d0) q0, hk _ _ r4 hT, r1, r2, r3, r4⟩
      item := fun i s1 Q1 E1 hi st hds hQ => by
        obtain ⟨q1, q3, q4, hz⟩ := st
        have l1 : i < n1 := Nat.lt_of_lt_of_le hi (Nat.min_le_left _ _)
        have l2 : i < n2 := Nat.lt_of_lt_of_le hi (Nat.min_le_right _ _)
        have lt : ∀ {c o}, s1.heap.get? c = some o → s1.heap.objs.size ≠ c := fun e => Nat.ne_of_gt (Heap.lt_size e)
        have m1 : s1.heap.objs.size ≠ i1 := let ⟨_, e⟩ := (D1 A hA).live _ _ q3; lt e
        have m2 : s1.heap.objs.size ≠ i2 := let ⟨_, e⟩ := (D2 A hA).live _ _ q4; lt e
        rcases hz with ⟨q0, a, b, q2⟩ | ⟨T, f, oT, q0, hT, r1, r2, r3, r4⟩
        · refine wpAny_pyNext_zipD2_item S (D1 A.in1 hA) (D2 A.in1 hA) q0 q1 q2 q3 q4 l1 l2 fun x1 x2 h' tk y1 y2 b1 b2 b3 b4 b5 _ hk => ?_
          exact hQ s1.heap.objs.size x1 x2 h' tk ⟨y1, y2⟩ (.inl ⟨_, b5, rfl, _, rfl⟩) ⟨hk _ _ S.TIz S.TITO S.TIi1 S.TIi2 q1, b3, b4, .inr ⟨s1.heap.objs.size, false, _, b1, b5, lt q0, m1, m2, Nat.ne_of_gt hds⟩⟩
            fun c o hc e => hk c o (fun x => hc (by simp [x])) (fun x => hc (by simp [x])) (fun x => hc (by simp [x])) (fun x => hc (by simp [x])) e
        · refine mi_next_item S (D1 A.in1 hA) (D2 A.in1 hA) q0 hT q1 q3 q4 l1 l2 fun x1 x2 h' tk y1 y2 b1 b2 b3 b4 hk => ?_
          exact hQ s1.heap.objs.size x1 x2 h' tk ⟨y1, y2⟩ (.inl ⟨_, b4, rfl, _, rfl⟩) ⟨hk _ _ S.TIz S.TIi1 S.TIi2 q1, b2, b3, .inr ⟨T, true, oT, b1, hk _ _ r1 r2 r3 hT, r1, r2, r3, r4⟩⟩
            fun c o hc e => hk c o (fun x => hc (by simp [x])) (fun x => hc (by simp [x])) (fun x => hc (by simp [x])) e
      done := fun s1 Q1 E1 st hQ => by
        obtain ⟨q1, q3, q4, hz⟩ := st
        rcases hz with ⟨q0, a, b, q2⟩ | ⟨T, f, oT, q0, hT, r1, r2, r3, r4⟩
        · exact wpAny_pyNext_zipD2_end S (D1 A.in1 hA) (D2 A.in1 hA) q0 q1 q2 q3 q4 (Nat.min_le_left _ _) (Nat.min_le_right _ _) (by omega) fun h' tk hk => hQ h' tk fun c o hc e => hk c o (fun x => hc (by simp [x])) (fun x => hc (by simp [x])) (fun x => hc (by simp [x])) (fun x => hc (by simp [x])) e
        · exact mi_next_end S (D1 A.in1 hA) (D2 A.in1 hA) q0 hT q1 q3 q4 (Nat.min_le_left _ _) (Nat.min_le_right _ _) (by omega) fun h' tk hk => hQ h' tk fun c o hc e => hk c o (fun x => hc (by simp [x])) (fun x => hc (by simp [x])) (fun x => hc (by simp [x])) e }
end
end PySem
end
section
namespace Mi
open PySem L2 PySem.Spec
section
variable {lev : Nat} {fa : Nat → Option Addr} {xr : XR} {m : Nm} {c : Cfg} {sc : Scope} {W : WX} {X : Cx} {F H F1 H1 : Hp} {ow ow1 : Ow} {σ : L2.St} {K : PySem.W.Frag}
theorem zipK_rep {P : Program} {w : World} : ∀ {xs ys : List D} {vs us : List V} {a b : List Value} {kds : List (Key × D)}, RepL fa K F xs vs → RepL fa K F ys us → zipKs xs ys = some kds → Vals vs a → Vals us b →
    ∃ (ws : List (Key × V)) (prs : List (Key × Value)), RepK fa K F kds ws ∧ KV ws prs ∧ prs.length = min a.length b.length ∧ ∀ (i : Nat) (x y : Value), a[i]? = some x → b[i]? = some y → ∃ k, prs[i]? = some (k, y) ∧ (mixKind P w).is k x = true
  | _, _, _, _, _, _, _, .nil, _, h, .nil, _ => by cases h; exact ⟨[], [], .nil, .nil, by simp, fun i x y h => by simp at h⟩
  | _, _, _, _, _, _, _, .cons _ _, .nil, h, .cons _ _, .nil => by cases h; exact ⟨[], [], .nil, .nil, by simp, fun i x y _ h => by simp at h⟩
  | x :: xs, y :: ys, _, _, _, _, kds, .cons r1 rr1, .cons r2 rr2, h, .cons v1 vv1, .cons v2 vv2 => by
    unfold zipKs at h
    cases hk : keyD x with
    | none => rw [hk] at h; cases h
    | some k =>
      rw [hk] at h
      simp only at h
      cases hz : zipKs xs ys with
      | none => rw [hz] at h; cases h
      | some r =>
        rw [hz] at h
        cases h
        obtain ⟨ws, prs, h1, h2, h3, h4⟩ := zipK_rep (P := P) (w := w) rr1 rr2 hz vv1 vv2
        obtain ⟨q1, q2⟩ := r1.keyK hk
        subst q1
        refine ⟨(k, _) :: ws, (k, _) :: prs, .cons q2 r2 h1, .cons ⟨rfl, v2⟩ h2, ?_, fun i p q hp hq => ?_⟩
        · simp only [List.length_cons, h3]; omega
        · cases i with
          | zero => simp at hp hq; subst hp hq; exact ⟨k, rfl, kV_is v1⟩
          | succ i => simp at hp hq; obtain ⟨k', e1, e2⟩ := h4 i p q hp hq; exact ⟨k', by simpa using e1, e2⟩
/-- a source whose items are values of a list or a tuple -/
def Src.seq : Src → Bool | .l _ => true | .t _ => true | .s _ => false
theorem Src.vals {pins : List (Addr × Obj)} {s : Shared} {S : Src} {xs : List V} (I : Inv X pins σ H s) (h : S.At X.K H xs) (hs : S.seq = true) : ∃ its : List Value, Vals xs its ∧ xs.length ≤ sizeLine ∧ S.n its.toArray = its.length ∧ (∀ i v, S.P its.toArray i v ↔ its[i]? = some v) ∧ ∀ it i, S.tn it i s.heap → S.St its.toArray 0 it i s.heap := by
  cases S with
  | l a =>
    obtain ⟨its, rv, p, hz⟩ := I.list h
    exact ⟨its, rv, hz, by simp [Src.n], fun i v => by simp [Src.P], fun it i q => ⟨q, p.isList⟩⟩
  | t a =>
    obtain ⟨its, rv, p, hz⟩ := I.tuple h
    exact ⟨its, rv, hz, by simp [Src.n], fun i v => by simp [Src.P], fun it i q => ⟨q, show s.heap.IsTuple a its.toArray from p⟩⟩
  | s z => cases hs
theorem Src.live {S : Src} {items : Array Value} {k : Tok} {it : Addr} (hs : S.seq = true) : ∀ h, S.St items k it 0 h → ∀ b ∈ it :: S.rest, ∃ o, h.get? b = some o := by
  intro h st b hb
  cases S with
  | l a =>
    obtain ⟨⟨o, ho, _⟩, ⟨o2, h2, _⟩⟩ := st
    have e : b = it ∨ b = a := by simpa [Src.rest] using hb
    rcases e with e | e <;> subst e
    · exact ⟨_, ho⟩
    · exact ⟨_, h2⟩
  | t a =>
    obtain ⟨⟨o, ho, _⟩, ⟨o2, h2, _⟩⟩ := st
    have e : b = it ∨ b = a := by simpa [Src.rest] using hb
    rcases e with e | e <;> subst e
    · exact ⟨_, ho⟩
    · exact ⟨_, h2⟩
  | s z => cases hs
theorem seq_src {d : D} {v : V} (h : Rep fa K F d v) {xs : List D} (e : d.items = some xs) (hd : ∀ z, d ≠ .str z) : ∃ S vs, v = Src.v S ∧ S.seq = true ∧ RepL fa K F xs vs ∧ ∀ H', Sub F H' → S.At K H' vs := by
  cases h with
  | lst h1 r1 => cases e; exact ⟨.l _, _, rfl, rfl, r1, fun H' sb => .inl (Rd.sub sb h1)⟩
  | scr h1 r1 => cases e; exact ⟨.l _, _, rfl, rfl, r1, fun H' sb => SqL.sub sb h1⟩
  | tup h1 r1 => cases e; exact ⟨.t _, _, rfl, rfl, r1, fun H' sb => SqT.sub sb h1⟩
  | str hk => exact absurd rfl (hd _)
  | _ => cases e
/-- dict(zip(a, b)) -/
theorem px_dzip (C : Ctx lev fa xr m c sc W X) {a b : M} {f f2 : CE} {ea eb : Expr} {p p2 pos pos2 : Pos} (hg : glC m.G sc "dict" .bu = true) (hg2 : glC m.G sc "zip" .bu = true) (ha : PE X ea (tE fa X.K xr false W f)) (hb : PE X eb (tE fa X.K xr false W f2))
    (he : starEach [ea, eb] X.env = (false, eval ea X.env) :: starEach [eb] X.env) (he2 : starEach [eb] X.env = (false, eval eb X.env) :: starEach [] X.env)
    (hz : starEach [.Call (.Name "zip" p2) [ea, eb] [] pos2] X.env = (false, eval (.Call (.Name "zip" p2) [ea, eb] [] pos2) X.env) :: starEach [] X.env) :
    PE X (.Call (.Name "dict" p) [.Call (.Name "zip" p2) [ea, eb] [] pos2] [] pos) (tE fa X.K xr true W (xPx .dzip [(false, a, f), (false, b, f2)])) := by
  obtain ⟨g1, g2, g3, g4⟩ := bu_of C hg
  obtain ⟨k1, k2, k3, k4⟩ := bu_of C hg2
  have key : PE X (.Call (.Name "dict" p) [.Call (.Name "zip" p2) [ea, eb] [] pos2] [] pos) (fun σ H Q => tE fa X.K xr false W f σ H fun x H1 => tE fa X.K xr false W f2 σ H1 fun y H2 =>
      ∃ (S1 S2 : Src) (xs ys : List V) (F : Hp) (ds es : List D) (kds : List (Key × D)), x = S1.v ∧ y = S2.v ∧ S1.seq = true ∧ S2.seq = true ∧ S1.At X.K H2 xs ∧ S2.At X.K H2 ys ∧ RepL fa X.K F ds xs ∧ RepL fa X.K F es ys ∧ zipKs ds es = some kds ∧
        ∀ (ws : List (Key × V)) q, RepK fa X.K F kds ws → H2 q = none → Q (.ref q) (upd H2 q (.dK (mergeK [] ws)))) := by
    refine ⟨fun pins s σ H Q I h => ?_⟩
    refine wpAny_Call_Name_kw (ld_blt I g1 g2 (u := .type "dict") (by decide +kernel) ?_ g4 g3)
    refine PyProof.Rows.callWith_type1 (PyProof.Rows.args_cons ?_ hz) hz (by rfl)
    refine wpAny_Call_Name_kw (ld_blt I k1 k2 PyProof.Rows.boot_zip ?_ k4 k3)
    refine PyProof.Rows.callWith_type1 (PyProof.Rows.args_cons (thn (ha.run pins s σ H _ I h) fun u s1 ⟨x, H1, I1, r1, q1⟩ => ?_) he) he (by rw [he2]; rfl)
    refine one_arg hb I1 q1 (fun u2 s2 y H2 I2 r2 q => ?_) he2
    obtain ⟨S1, S2, xs, ys, F, ds, es, kds, e1, e2, z1, z2, a1, a2, p1, p2', hk, q⟩ := q
    subst e1 e2
    obtain ⟨t1, rfl⟩ := Src.rel r1
    obtain ⟨t2, rfl⟩ := Src.rel r2
    obtain ⟨_, B1, b1⟩ := Src.begins I2 a1 t1
    obtain ⟨_, B2, b2⟩ := Src.begins I2 a2 t2
    have l1 := Src.lt I2 a1
    have l2 := Src.lt I2 a2
    refine zip_begins2 B1 B2 b1 b2 fun h' hz' hTI hTO o1 o2 hsz hk' => PyProof.Rows.args_nil ?_
    have I3 : Inv X pins σ H2 { s2 with heap := h' } := I2.kept (t' := s2.toks) hk'
    obtain ⟨it1, v1, c1, n1, w1, t1'⟩ := Src.vals I3 a1 z1
    obtain ⟨it2, v2, c2, n2, w2, t2'⟩ := Src.vals I3 a2 z2
    obtain ⟨ws, prs, y1, y2, y3, y4⟩ := zipK_rep (P := X.prog) (w := X.w) p1 p2' hk v1 v2
    have hh : X.A.handled = none := I3.ok.hd C.calm
    have D1 : ∀ A : Around, A.handled = none → Draws X.prog X.w A s2.heap.objs.size (s2.heap.objs.size :: S1.rest) (S1.n it1.toArray) (S1.P it1.toArray) (S1.St it1.toArray 0 s2.heap.objs.size) := fun A hA => Src.draws hA S1 _ (fun z => Nat.lt_irrefl _ (l1 _ z)) it1.toArray 0
    have D2 : ∀ A : Around, A.handled = none → Draws X.prog X.w A (s2.heap.objs.size + 1) ((s2.heap.objs.size + 1) :: S2.rest) (S2.n it2.toArray) (S2.P it2.toArray) (S2.St it2.toArray 0 (s2.heap.objs.size + 1)) := fun A hA => Src.draws hA S2 _ (fun z => Nat.not_succ_lt_self (l2 _ z)) it2.toArray 0
    have PP := mi_pairs_zip (zip_sep2 l1 l2) D1 D2 (Src.live z1) (Src.live z2) X.A hh
    have hlen : prs.length ≤ sizeLine := by rw [y3, ← v1.length]; exact Nat.le_trans (Nat.min_le_left _ _) c1
    refine PySem.call_dict_pairs (knd := mixKind X.prog X.w) (kvs := prs) PP hh ⟨hz', hTI, ⟨_, _, hTO⟩, t1' _ _ (Src.tn_new o1), t2' _ _ (Src.tn_new o2)⟩ ⟨by rw [y3, n1, n2], fun i key v hr => y4 i key v ((w1 _ _).mp hr.1) ((w2 _ _).mp hr.2)⟩ (by rw [n1, n2, ← y3]; exact hlen) fun h'' tk hd hk2 => ?_
    have hkeep : ∀ b o, s2.heap.get? b = some o → h''.get? b = some o := fun b o e => hk2 b o (fun hb => by
      have hlt : b < s2.heap.objs.size := Heap.lt_size e
      have e' : b = s2.heap.objs.size + 4 ∨ b = s2.heap.objs.size + 3 ∨ b = s2.heap.objs.size ∨ b = s2.heap.objs.size + 1 := by simpa using hb
      rcases e' with z | z | z | z <;> rw [z] at hlt <;> exact absurd hlt (by first | exact Nat.lt_irrefl _ | exact Nat.not_lt.mpr (Nat.le_add_right _ _))) (hk' b o e)
    have hbig : s2.heap.objs.size ≤ h'.objs.size := by rw [hsz]; exact Nat.le_add_right _ _
    have hm : (h'.objs.size == sysModules) = false := beq_eq_false_iff_ne.mpr (Nat.ne_of_gt I3.big)
    have hl2 : (mergeK [] ws).length ≤ sizeLine := by
      refine Nat.le_trans (length_mergeK ws []) ?_
      rw [List.length_nil, Nat.zero_add, y2.length]
      exact hlen
    exact ⟨.ref h'.objs.size, upd H2 h'.objs.size (.dK (mergeK [] ws)), I2.laid (t' := tk) hkeep hbig (show ObjOk X.prog X.w _ _ _ (.dK (mergeK [] ws)) from ⟨hl2, hm, merged [] prs, KV.merge y2 .nil, hd⟩), rfl, q ws _ y1 (I2.hok.fresh hbig)⟩
  refine key.imp fun σ H Q ⟨F, ow, env, s, g⟩ => ⟨F, ow, env, s, ?_⟩
  rw [xPx2] at g
  refine g.bind.mono fun d e1 H1 F1 ow1 ev1 s1 g1 v hv => ⟨F1, ow1, e1, s1, ?_⟩
  refine g1.bind.mono fun d2 e2 H2 F2 ow2 ev2 s2 g2 w hw => ?_
  obtain ⟨x, ex, g2⟩ := g2.lift
  have hv := (hv.rep (fr := false)).mono ev2.mono
  have hw := hw.rep (fr := false)
  have : ∃ xs ys kds, d.items = some xs ∧ d2.items = some ys ∧ (∀ z, d ≠ .str z) ∧ (∀ z, d2 ≠ .str z) ∧ zipKs xs ys = some kds ∧ x = .dct (putAllD [] kds) := by
    cases d <;> cases d2 <;> simp only [pxD] at ex <;> first | (cases ex; done) | skip
    all_goals
      obtain ⟨kds, h1, h2⟩ := Option.map_eq_some_iff.mp ex
      exact ⟨_, _, kds, rfl, rfl, fun z => by simp, fun z => by simp, h1, h2.symm⟩
  obtain ⟨ds, es, kds, i1, i2, n1, n2, hk, rfl⟩ := this
  obtain ⟨S1, xs, q1, q2, q3, q4⟩ := seq_src hv i1 n1
  obtain ⟨S2, ys, r1, r2, r3, r4⟩ := seq_src hw i2 n2
  exact ⟨S1, S2, xs, ys, F2, ds, es, kds, q1, r1, q2, r2, q4 _ s2.sub, r4 _ s2.sub, q3, r3, hk, fun ws q hr hq => g2.pstD s2 (fun a h => ev2.dom a (ev1.dom a h)) hq (hr.putAll .nil)⟩
/-- max([..], default=d) -/
theorem reads_ints {h : Heap} : ∀ {ns : List Int} {us : List Value}, Vals (ns.map V.int) us → ReadsAll h us (ns.map PyData.int) []
  | [], _, .nil => .nil
  | n :: ns, _, .cons a b => by
    obtain ⟨t, rfl⟩ := a
    exact .cons (as := []) (bs := []) (.int n t) (reads_ints b)
theorem alike_ints (ns : List Int) : PySem.W.AlikeAll (ns.map PyData.int) := by
  refine ⟨fun x hx y hy => ?_, fun x hx => ?_⟩
  · obtain ⟨i, _, rfl⟩ := List.mem_map.mp hx
    obtain ⟨j, _, rfl⟩ := List.mem_map.mp hy
    rfl
  · obtain ⟨i, _, rfl⟩ := List.mem_map.mp hx
    exact fun z => nomatch z
theorem depth_ints : ∀ ns : List Int, PyData.depthAll (ns.map PyData.int) ≤ 1
  | [] => Nat.zero_le _
  | n :: ns => Nat.max_le.mpr ⟨by show (PyData.int n).depth ≤ 1; simp [PyData.depth], depth_ints ns⟩
theorem foldl_max : ∀ (ns : List Int) (n : Int), ns.foldl max n = maxI n ns
  | [], n => rfl
  | k :: ns, n => by
    have e : max n k = if k > n then k else n := by split <;> omega
    rw [List.foldl_cons, e, foldl_max ns]
    rfl
theorem px_maxd (C : Ctx lev fa xr m c sc W X) {a b : M} {f f2 : CE} {ea eb : Expr} {kp p pos : Pos} (hg : glC m.G sc "max" .bu = true) (ha : PE X ea (tE fa X.K xr false W f)) (hb : PE X eb (tE fa X.K xr false W f2))
    (he : starEach [ea] X.env = (false, eval ea X.env) :: starEach [] X.env) :
    PE X (.Call (.Name "max" p) [ea] [⟨some "default", eb, kp⟩] pos) (tE fa X.K xr false W (xPx .maxd [(false, a, f), (false, b, f2)])) := by
  obtain ⟨g1, g2, g3, g4⟩ := bu_of C hg
  have key : PE X (.Call (.Name "max" p) [ea] [⟨some "default", eb, kp⟩] pos) (fun σ H Q => tE fa X.K xr false W f σ H fun x H1 => tE fa X.K xr false W f2 σ H1 fun y H2 =>
      ∃ (l : Addr) (ns : List Int), x = .ref l ∧ SqL X.K H2 l (ns.map V.int) ∧ (ns = [] → Q y H2) ∧ ∀ n r, ns = n :: r → Q (.int (maxI n r)) H2) := by
    refine ⟨fun pins s σ H Q I h => ?_⟩
    refine wpAny_Call_Name_kw (ld_blt I g1 g2 (u := .builtin "max") (by decide +kernel) ?_ g4 g3)
    refine PyProof.Rows.callWith_kw (PyProof.Rows.args_cons (thn (ha.run pins s σ H _ I h) fun u s1 ⟨x, H1, I1, r1, q1⟩ => PyProof.Rows.args_nil ?_) he) (by rw [he]; rfl) (by rw [he]; rfl)
    refine PyProof.Rows.kws_cons (thn (hb.run pins s1 σ H1 _ I1 q1) fun u2 s2 ⟨y, H2, I2, r2, q⟩ => PyProof.Rows.kws_nil ?_)
    obtain ⟨l, ns, rfl, hs, q0, q1⟩ := q
    obtain rfl : u = Value.ref l := r1
    obtain ⟨its, rv, pl, hz⟩ := I2.list hs
    have hh : X.A.handled = none := I2.ok.hd C.calm
    have hu := C.units
    refine PySem.W.max_list_default (d := u2) (xs := ns.map PyData.int) hh pl.isList (show ReadsAll s2.heap its.toArray.toList (ns.map PyData.int) [] from reads_ints rv) (alike_ints ns) (by have := depth_ints ns; omega) (fun hn h' tk hk => ?_) fun y' ys i v h' tk bs hxs hv hr hk => ?_
    · exact ⟨y, H2, I2.kept (t' := tk) hk, r2, q0 (List.map_eq_nil_iff.mp hn)⟩
    · cases ns with
      | nil => cases hxs
      | cons n r =>
        cases hxs
        rw [PySem.W.maxD_ints, foldl_max] at hr
        cases hr
        exact ⟨.int _, H2, I2.kept (t' := tk) hk, ⟨_, rfl⟩, q1 n r rfl⟩
  refine key.imp fun σ H Q ⟨F, ow, env, s, g⟩ => ⟨F, ow, env, s, ?_⟩
  rw [xPx2] at g
  refine g.bind.mono fun d e1 H1 F1 ow1 ev1 s1 g1 v hv => ⟨F1, ow1, e1, s1, ?_⟩
  refine g1.bind.mono fun d2 e2 H2 F2 ow2 ev2 s2 g2 w hw => ?_
  obtain ⟨x, ex, g2⟩ := g2.lift
  have hv := (hv.rep (fr := false)).mono ev2.mono
  have hw := hw.rep (fr := false)
  cases hv with
  | lst h1 r1 =>
    simp only [pxD] at ex
    split at ex
    · rename_i n ns hi
      cases ex
      have hvs := ints_vals hi r1
      subst hvs
      refine ⟨_, n :: ns, rfl, .inl (Rd.sub s2.sub h1), fun z => by simp at z, fun n' r' e => ?_⟩
      cases e
      exact (g2.out s2).same s2.sub (.int _)
    · rename_i hi
      cases ex
      have hvs := ints_vals hi r1
      subst hvs
      exact ⟨_, [], rfl, .inl (Rd.sub s2.sub h1), fun _ => (g2.out s2).same s2.sub hw, fun n r e => by cases e⟩
    · cases ex
  | _ => cases ex
end
end Mi
end
section
namespace Mi
open PySem L2 PySem.Spec
section
variable {lev : Nat} {fa : Nat → Option Addr} {xr : XR} {m : Nm} {c : Cfg} {sc : Scope} {W : WX} {X : Cx} {F H F1 H1 : Hp} {ow ow1 : Ow} {σ : L2.St} {K : PySem.W.Frag}
theorem star_call {f : Expr} {es : List Expr} {ks : List Keyword} {pos : Pos} (env : Env) (r : List Expr) : starEach (.Call f es ks pos :: r) env = (false, eval (.Call f es ks pos) env) :: starEach r env := rfl
/-- what a word of one word is -/
theorem pxC1 {G : GT} {o : Px} {e e1 : Expr} (h : pxC G sc o e = some [e1]) : (∃ p pos, o = .dict ∧ e = .Call (.Name "dict" p) [e1] [] pos ∧ glC G sc "dict" .bu = true) ∨
    (∃ p p2 pos pos2, o = .rng1 ∧ e = .Call (.Name "list" p) [.Call (.Name "range" p2) [e1] [] pos2] [] pos ∧ glC G sc "list" .bu = true ∧ glC G sc "range" .bu = true) ∨
    ∃ p pos apos pos2, o = .tvals ∧ e = .Call (.Name "tuple" p) [.Call (.Attribute e1 "values" apos) [] [] pos2] [] pos ∧ glC G sc "tuple" .bu = true ∧ noSuper e1 = true ∧ (apos.endLine == pos2.line) = true := by
  cases o <;> simp only [pxC] at h
  case dict =>
    split at h
    · rename_i a q
      obtain ⟨p, pos, rfl, h2⟩ := bcC_some q
      cases h
      exact .inl ⟨p, pos, rfl, rfl, h2⟩
    · cases h
  case rng1 =>
    split at h
    · rename_i z q
      obtain ⟨p, pos, rfl, h2⟩ := bcC_some q
      split at h
      · rename_i a q2
        obtain ⟨p2, pos2, rfl, h3⟩ := bcC_some q2
        cases h
        exact .inr (.inl ⟨p, p2, pos, pos2, rfl, rfl, h2, h3⟩)
      · cases h
    · cases h
  case tvals =>
    split at h
    · rename_i z q
      obtain ⟨p, pos, rfl, h2⟩ := bcC_some q
      obtain ⟨a, q2, q3⟩ := Option.map_eq_some_iff.mp h
      cases q3
      obtain ⟨apos, pos2, rfl, h3, h4⟩ := ameth_some q2
      exact .inr (.inr ⟨p, pos, apos, pos2, rfl, rfl, h2, h3, h4⟩)
    · cases h
  all_goals
    exfalso
    repeat' (split at h)
    all_goals cases h
theorem pxC2 {G : GT} {o : Px} {e e1 e2 : Expr} (h : pxC G sc o e = some [e1, e2]) : (∃ p p2 pos pos2, o = .dzip ∧ e = .Call (.Name "dict" p) [.Call (.Name "zip" p2) [e1, e2] [] pos2] [] pos ∧ glC G sc "dict" .bu = true ∧ glC G sc "zip" .bu = true) ∨
    (∃ p p2 pos pos2, o = .rng2 ∧ e = .Call (.Name "list" p) [.Call (.Name "range" p2) [e1, e2] [] pos2] [] pos ∧ glC G sc "list" .bu = true ∧ glC G sc "range" .bu = true) ∨
    ∃ p pos kp, o = .maxd ∧ e = .Call (.Name "max" p) [e1] [⟨some "default", e2, kp⟩] pos ∧ glC G sc "max" .bu = true := by
  cases o <;> simp only [pxC] at h
  case dzip =>
    split at h
    · rename_i z q
      obtain ⟨p, pos, rfl, h2⟩ := bcC_some q
      split at h
      · rename_i a b q2
        obtain ⟨p2, pos2, rfl, h3⟩ := bcC_some q2
        cases h
        exact .inl ⟨p, p2, pos, pos2, rfl, rfl, h2, h3⟩
      · cases h
    · cases h
  case rng2 =>
    split at h
    · rename_i z q
      obtain ⟨p, pos, rfl, h2⟩ := bcC_some q
      split at h
      · rename_i a b q2
        obtain ⟨p2, pos2, rfl, h3⟩ := bcC_some q2
        cases h
        exact .inr (.inl ⟨p, p2, pos, pos2, rfl, rfl, h2, h3⟩)
      · cases h
    · cases h
  case maxd =>
    split at h
    · rename_i a k d kp q
      obtain ⟨p, pos, rfl, h2⟩ := bcC_some q
      split at h
      · rename_i hk
        subst hk
        cases h
        exact .inr (.inr ⟨p, pos, kp, rfl, rfl, h2⟩)
      · cases h
    · cases h
  all_goals
    exfalso
    repeat' (split at h)
    all_goals first | (cases h; done) | (obtain ⟨a, q2, q3⟩ := Option.map_eq_some_iff.mp h; cases q3)
theorem pxC3 {G : GT} {o : Px} {e : Expr} {es : List Expr} (h : pxC G sc o e = some es) : es.length ≤ 2 := by
  cases o <;> simp only [pxC] at h
  all_goals
    repeat' (split at h)
    all_goals first | (cases h; done) | (injection h with h; rw [← h]; simp; done) | (obtain ⟨a, q2, q3⟩ := Option.map_eq_some_iff.mp h; rw [← q3]; simp)
theorem snd_px0 {o : Px} {e : Expr} (h : pxC m.G sc o e = some []) : PE X e (tE fa X.K xr (pxFr o) W (xPx o [])) := by
  cases o <;> simp only [pxC] at h
  case dnew =>
    split at h
    · exact px_dnew
    · cases h
  all_goals
    exfalso
    repeat' (split at h)
    all_goals first | (cases h; done) | (obtain ⟨a, q2, q3⟩ := Option.map_eq_some_iff.mp h; cases q3)
theorem snd_px1 (C : Ctx lev fa xr m c sc W X) {o : Px} {a : M} {f : CE} {e e1 : Expr} (h : pxC m.G sc o e = some [e1]) (hc : chkE m sc a e1 = true) (ih : PE X e1 (tE fa X.K xr false W f)) : PE X e (tE fa X.K xr (pxFr o) W (xPx o [(false, a, f)])) := by
  rcases pxC1 h with ⟨p, pos, rfl, rfl, g⟩ | ⟨p, p2, pos, pos2, rfl, rfl, g, g2⟩ | ⟨p, pos, apos, pos2, rfl, rfl, g, n, l⟩
  · exact px_dict C g ih (chk_plain hc _ _)
  · exact px_rng1 C g g2 ih (chk_plain hc _ _)
  · exact px_tvals C g ih n l (star_call _ _)
theorem snd_px2 (C : Ctx lev fa xr m c sc W X) {o : Px} {a b : M} {f f2 : CE} {e e1 e2 : Expr} (h : pxC m.G sc o e = some [e1, e2]) (hc : chkE m sc a e1 = true) (hc2 : chkE m sc b e2 = true) (ih : PE X e1 (tE fa X.K xr false W f)) (ih2 : PE X e2 (tE fa X.K xr false W f2)) :
    PE X e (tE fa X.K xr (pxFr o) W (xPx o [(false, a, f), (false, b, f2)])) := by
  rcases pxC2 h with ⟨p, p2, pos, pos2, rfl, rfl, g, g2⟩ | ⟨p, p2, pos, pos2, rfl, rfl, g, g2⟩ | ⟨p, pos, kp, rfl, rfl, g⟩
  · exact px_dzip C g g2 ih ih2 (chk_plain hc _ _) (chk_plain hc2 _ _) (star_call _ _)
  · exact px_rng2 C g g2 ih ih2 (chk_plain hc _ _) (chk_plain hc2 _ _)
  · exact px_maxd C g ih ih2 (chk_plain hc _ _)
end
end Mi
end
section
/-! what objects have: fields, properties, methods, len, in -/
namespace Mi
open PySem L2 PySem.Spec
section
variable {lev : Nat} {fa : Nat → Option Addr} {xr : XR} {m : Nm} {c : Cfg} {sc : Scope} {W : WX} {X : Cx} {F H F1 H1 : Hp} {ow ow1 : Ow} {σ : L2.St} {K : PySem.W.Frag} {pins : List (Addr × Obj)} {s : Shared}
abbrev NoW : WX := fun _ _ _ _ => False
theorem Good.calmed {α : Type} {r : R α} {Q : α → En → Hp → Hp → Ow → Prop} (g : Good fa K xr W σ H F ow r.calm Q) : Good fa K xr NoW σ H F ow r Q := by
  cases r with
  | ok a e => exact g
  | ex x e => exact (show False from g).elim
  | no => exact (show False from g).elim
theorem Good.calmB {α β : Type} {r : R α} {f : α → En → R β} {Q : β → En → Hp → Hp → Ow → Prop} (g : Good fa K xr W σ H F ow (r.calm.bind f) Q) : Good fa K xr NoW σ H F ow r fun a e H' F' ow' => Good fa K xr W σ H' F' ow' (f a e) Q :=
  Good.calmed g.bind
/-- a def is run -/
theorem fnr_at {A : Around} {lev : Nat} {g : Addr} {sp : Sp} {Q : VK} {us : List Value} {vs : List V} (G : FnR X.prog X.w X.K X.mg X.base (L2.CX X.prog X.w) lev g sp) (hr : Room lev A) (e0 : Env0 X.prog X.w X.K X.mg X.base A X.stack s H) (tk : Takes X W) (I : L2.Inv X pins σ H s) (r : Vals vs us) (h : sp vs H Q (WE W σ)) :
    codeAny (model X.prog X.w) A (.call (.ref g) ⟨us, []⟩) (fun r s' => match r with | .ok (.ret v) => EP X pins σ Q v s' | .ok _ => False | .error e => X.xe e s') s := by
  refine codeAny_mono (G A X.stack s H us vs Q (WE W σ) hr e0 r h) fun r s' hq => ?_
  cases r with
  | error e => exact passAt tk σ pins H s e s' I hq
  | ok fl =>
    cases fl with
    | ret u => exact I.after hq
    | next => exact False.elim hq
    | brk => exact False.elim hq
    | cont => exact False.elim hq
/-- an object of the small language is an instance with slots -/
theorem obj_slt {j : Nat} {fs : List D} {v : V} (sb : Sub F H) (h : Rep fa K F (.obj j fs) v) : ∃ a C dx vs, v = .ref a ∧ fa j = some C ∧ SlX.Slt H a C dx (vs.map some) ∧ RepL fa K F fs vs := by
  cases h with
  | obj h1 h2 h3 h4 => exact ⟨_, _, _, _, rfl, h1, .inr ⟨sb _ _ h2, sb _ _ h3⟩, h4⟩
/-- o.m(..), o an instance: the method, then the arguments -/
theorem meth_of {M : Model} {A : Around} {E : Value → Shared → Prop} {s : Shared} {env : Env} {o : Expr} {name : Str} {apos pos : Pos} {args : List Expr} {Q : Value → Shared → Prop} (hbase : attributeBase o name env (eval o env) = eval o env)
    (hfew : methodCallForm (args.length + ([] : List Keyword).length) (backTo pos (starEach args env)) (backToKw pos (keywordEach [] env)) = true) (hline : (apos.endLine == pos.line) = true)
    (h : wpAny M A (eval o env) (fun ov s1 => ∀ pl, wpAny M A (getMethod ov name pl) (fun fx s2 => wpAny M A (callWith pos fx.1 fx.2 (backTo pos (starEach args env)) []) Q E s2) E s1) E s) :
    wpAny M A (eval (.Call (.Attribute o name apos) args [] pos) env) Q E s := by
  have hpos : methodCallPos true o env apos pos = pure pos := by unfold methodCallPos; simp [hline]
  rw [arm_eval_Call, hbase]
  refine wpAny_bind (wpAny_mono h (fun ov s1 h1 => wpAny_bind (wpAny_standAt ?_)) fun _ _ x => x)
  unfold methodCall
  rw [hfew, hpos]
  unfold calleeOf
  rw [if_pos rfl]
  exact wpAny_bind (wpAny_holding (wpAny_mono (h1 _) (fun fx s2 h2 => wpAny_bind (wpAny_pure h2)) fun _ _ x => x))
/-- o.name -/
theorem snd_attr (C : Ctx lev fa xr m c sc W X) {x : Nat} {o : CE} {eo : Expr} {pos : Pos} (hn : noSuper eo = true) (ho : PE X eo (tE fa X.K xr false W o)) : PE X (.Attribute eo (m.an x) pos) (tE fa X.K xr false W (xAttr c x o)) := by
  refine ⟨fun pins s σ H Q I ⟨F, ow, env, st, g⟩ => ?_⟩
  have g : Good fa X.K xr W σ H F ow ((o env).bind _) _ := g
  have key : tE fa X.K xr false W o σ H fun v H1 => ∃ a C' dx vs, v = .ref a ∧ SlX.Slt H1 a C' dx vs ∧ SlX.SCls X.K C' ∧
      ((∃ p k w, SlX.Slot1 X.K C' (m.an x) p k ∧ vs[k]? = some (some w) ∧ Q w H1) ∨ ∃ p g i, PropOf X.K C' (m.an x) p g ∧ FnR X.prog X.w X.K X.mg X.base (L2.CX X.prog X.w) lev g (spF fa X.K xr c i 1) ∧ spF fa X.K xr c i 1 [.ref a] H1 Q (WE NoW σ)) := by
    refine ⟨F, ow, env, st, ?_⟩
    refine g.bind.mono fun d e1 H1 F1 ow1 ev1 s1 g1 v hv => ?_
    have hv := hv.rep (fr := false)
    cases d with
    | obj j fs =>
      obtain ⟨a, C', dx, vs, rfl, hC, sl, rr⟩ := obj_slt s1.sub hv
      simp only at g1
      cases hat : c.at_ j x with
      | none => rw [hat] at g1; exact (show False from g1).elim
      | some t =>
        rw [hat] at g1
        refine ⟨a, C', dx, vs.map some, rfl, sl, C.cl.cls j x t C' hat hC, ?_⟩
        cases t with
        | fld k =>
          obtain ⟨p, sp⟩ := C.cl.fld j x k C' hat hC
          obtain ⟨y, ey, g1⟩ := Good.lift g1
          obtain ⟨w, hw, rw'⟩ := rr.get ey
          exact .inl ⟨p, k, w, sp, by rw [List.getElem?_map, hw]; rfl, (g1.out s1).same s1.sub rw'⟩
        | prop i =>
          obtain ⟨p, g, po, fr⟩ := C.cl.prop j x i C' hat hC
          simp only at g1
          split at g1
          · exact (show False from g1).elim
          · rename_i hown
            have hown : c.own i = false := by simpa using hown
            exact .inr ⟨p, g, i, po, fr 1, call_core (c := c) (ds := []) (vs := []) (Q := Q) .refl s1 (ls := none) (.inl ⟨_, rfl, hv⟩) .nil (g1.calmed.mono fun d e H' F' ow' ev sg hq v hv' => hq v (by rw [hown] at hv'; exact Vd.of (hv'.rep (fr := false))))⟩
        | meth i => exact (show False from g1).elim
    | _ => exact (show False from g1).elim
  refine attr_of (noSuper_base hn _ _ _) (thn (ho.run pins s σ H _ I key) fun u s1 ⟨v, H1, I1, rv, a, C', dx, vs, ev, sl, sc', q⟩ => ?_)
  subst ev
  obtain rfl : u = Value.ref a := rv
  rcases q with ⟨p, k, w, sl1, hw, q⟩ | ⟨p, g, i, po, fr, q⟩
  · exact SlX.getslot_ok I1 sl sc' sl1 hw fun u' s2 I2 ru => ⟨w, H1, I2, ru, q⟩
  · exact SlX.getprop_sl I1 sl sc' po.at_ po.get po.tak po.rec_ fr C.hr1 (fun H s e s' ⟨_, _, _, _, _, _, _, _, _, _, _, _, h⟩ => h) q
/-- o.name(..) -/
theorem snd_meth (C : Ctx lev fa xr m c sc W X) {x : Nat} {o : CE} {l : CL} {eo : Expr} {es : List Expr} {apos pos : Pos} (hn : noSuper eo = true) (ho : PE X eo (tE fa X.K xr false W o)) (ha : PA X es (tA fa X.K xr W (esC l))) (hp : plainCL l) (hl : l.length = es.length)
    (hfew : methodCallForm (es.length + ([] : List Keyword).length) (backTo pos (starEach es X.env)) (backToKw pos (keywordEach [] X.env)) = true) (hline : (apos.endLine == pos.line) = true)
    (hes : es = [] ∨ ∃ e1 r, es = e1 :: r ∧ starEach (e1 :: r) X.env = (false, eval e1 X.env) :: starEach r X.env ∧ (backTo pos (starEach r X.env)).any (·.1) = false) :
    PE X (.Call (.Attribute eo (m.an x) apos) es [] pos) (tE fa X.K xr false W (xMeth c x o l)) := by
  refine ⟨fun pins s σ H Q I ⟨F, ow, env, st, g⟩ => ?_⟩
  have g : Good fa X.K xr W σ H F ow ((o env).bind _) _ := g
  have key : tE fa X.K xr false W o σ H fun v H1 => ∃ a C' dx vs, v = .ref a ∧ SlX.Slt H1 a C' dx vs ∧ SlX.SCls X.K C' ∧
      ∃ g i np, Meth X.K C' (m.an x) g ∧ FnR X.prog X.w X.K X.mg X.base (L2.CX X.prog X.w) lev g (spF fa X.K xr c i np) ∧ tA fa X.K xr W (esC l) σ H1 fun ws H2 => spF fa X.K xr c i np (.ref a :: ws) H2 Q (WE W σ) := by
    refine ⟨F, ow, env, st, ?_⟩
    refine g.bind.mono fun d e1 H1 F1 ow1 ev1 s1 g1 v hv => ?_
    have hv := hv.rep (fr := false)
    cases d with
    | obj j fs =>
      obtain ⟨a, C', dx, vs, rfl, hC, sl, rr⟩ := obj_slt s1.sub hv
      simp only at g1
      cases hat : c.at_ j x with
      | none => rw [hat] at g1; exact (show False from g1).elim
      | some t =>
        rw [hat] at g1
        cases t with
        | meth i =>
          obtain ⟨g, hm, fr⟩ := C.cl.meth j x i C' hat hC
          simp only at g1
          split at g1
          · exact (show False from g1).elim
          · rename_i hown
            have hown : c.own i = false := by simpa using hown
            refine ⟨a, C', dx, vs.map some, rfl, sl, C.cl.cls j x _ C' hat hC, g, i, l.length + 1, hm, fr _, F1, ow1, e1, s1, ?_⟩
            refine (Good.bind g1).see fun ds e2 hr2 H2 F2 ow2 ev2 s2 g2 ws hw => ?_
            have := call_core (c := c) (ds := ds) (vs := ws) (Q := Q) .refl s2 (ls := none) (.inl ⟨_, rfl, hv.mono ev2.mono⟩) hw (Good.mono g2 fun d e H' F' ow' ev sg hq v hv' => hq v (by rw [hown] at hv'; exact Vd.of (hv'.rep (fr := false))))
            rw [esC_len hp hr2] at this
            exact this
        | _ => exact (show False from g1).elim
    | _ => exact (show False from g1).elim
  refine meth_of (noSuper_base hn _ _ _) hfew hline (thn (ho.run pins s σ H _ I key) fun u s1 ⟨v, H1, I1, rv, a, C', dx, vs, ev, sl, sc', g, i, np, hm, fr, q⟩ pl => ?_)
  subst ev
  obtain rfl : u = Value.ref a := rv
  refine SlX.getmethsl_ok I1 sl sc' hm ?_
  have run : ∀ {us s2 ws H2}, L2.Inv X pins σ H2 s2 → Vals ws us → spF fa X.K xr c i np (.ref a :: ws) H2 Q (WE W σ) → wpAny (model X.prog X.w) X.A (PySem.call (.ref g) ([.ref a] ++ us)) (EP X pins σ Q) X.xe s2 :=
    fun {us s2 ws H2} I2 r q2 => wpAny_call (fnr_at (us := .ref a :: us) (vs := .ref a :: ws) fr C.hr I2.env0 C.tk I2 (.cons rfl r) q2)
  rcases hes with rfl | ⟨e1, r, rfl, he, hpl⟩
  · refine PySem.W.callWith_K0 I1.kIn hm.kp ?_
    have : l = [] := List.eq_nil_of_length_eq_zero hl
    subst this
    obtain ⟨F2, ow2, en2, st2, g2⟩ := q
    exact run I1 .nil (Good.ok (a := []) g2 st2 [] .nil)
  · exact PySem.W.callWith_K (first := [.ref a]) (h₀ := X.base) I.ok.mod.kin hm.kp (thn (ha.run pos pins s1 σ H1 _ I1 q) fun us s2 ⟨ws, H2, I2, r2, q2⟩ => ⟨I2.kIn, run I2 r2 q2⟩) he hpl
/-- len(o) -/
theorem snd_olen (C : Ctx lev fa xr m c sc W X) {o : CE} {x : Str} {eo : Expr} {p pos : Pos} (hx : x = "len") (hg : glC m.G sc x .bu = true) (ho : PE X eo (tE fa X.K xr false W o)) (he : starEach [eo] X.env = (false, eval eo X.env) :: starEach [] X.env) :
    PE X (.Call (.Name x p) [eo] [] pos) (tE fa X.K xr false W (xOlen c o)) := by
  subst hx
  obtain ⟨g1, g2, g3, g4⟩ := bu_of C hg
  have hs := bi_sound (fa := fa) C.calm C.units .len
  have key : CallR X (.builtin "len") (fun xs H Q => (rBi fa X.K .len xs H Q) ∨ ∃ a C' dx vs g i, xs = [V.ref a] ∧ SlX.Slt H a C' dx vs ∧ SlX.SCls X.K C' ∧ Meth X.K C' "__len__" g ∧ FnR X.prog X.w X.K X.mg X.base (L2.CX X.prog X.w) lev g (spF fa X.K xr c i 1) ∧ ∀ σ : L2.St, spF fa X.K xr c i 1 [.ref a] H (fun r H' => ∃ n, r = .int n ∧ 0 ≤ n ∧ n < big ∧ Q (.int n) H') (WE W0 σ)) := by
    intro pins s σ H xs us Q I r h
    rcases h with h | ⟨a, C', dx, vs, g, i, rfl, sl, sc', hm, fr, q⟩
    · exact hs pins s σ H xs us Q I r h
    · obtain ⟨u, rfl, ru⟩ := r.one
      obtain rfl : u = Value.ref a := ru
      obtain ⟨sls, od, _, J, _⟩ := SlX.slt_inst I sl
      obtain ⟨mm, hF⟩ := I.fr
      refine PySem.W.len_K hF I.ok.mod.kin J hm.at_ hm.fn (wpAny_mono (wpAny_call (fnr_at (us := [.ref a]) (vs := [.ref a]) (A := X.A.in1) fr C.hr1.in1 I.env0.in1 takes0 I (.cons rfl .nil) (q σ))) (fun w s' z => ?_) fun _ _ x => x)
      obtain ⟨z', H', I', rz, n, ez, h0, h1, qz⟩ := z
      subst ez
      obtain ⟨t, e⟩ := (show ∃ t, w = Value.int n t from rz)
      subst e
      exact ⟨⟨h0, by unfold big at h1; omega⟩, .int n, H', I'.tok _, ⟨_, rfl⟩, qz⟩
  refine PE.imp (pe_callB (t := fun σ H Q => tE fa X.K xr false W o σ H fun v H1 => Q [v] H1) key g1 g2 (by decide +kernel) ⟨fun pos pins s σ H Q I h => PyProof.Rows.args_cons (thn (ho.run pins s σ H _ I h) fun u s1 ⟨v, H1, I1, r1, q⟩ => PyProof.Rows.args_nil ⟨[v], H1, I1, .cons r1 .nil, q⟩) he⟩ g4 g3 he rfl) fun σ H Q ⟨F, ow, env, st, g⟩ => ⟨F, ow, env, st, ?_⟩
  have g : Good fa X.K xr W σ H F ow ((o env).bind _) _ := g
  refine g.bind.mono fun d e1 H1 F1 ow1 ev1 s1 g1 v hv => ?_
  have hv := hv.rep (fr := false)
  have other : ∀ {e : En}, Good fa X.K xr W σ H1 F1 ow1 (lift (biD .len [d]) e) (fun d _ H' F' ow' => ∀ v, Vd fa X.K false H H' F' ow' d v → Q v H') → Gst fa X.K H1 F1 ow1 e σ → rBi fa X.K .len [v] H1 Q := fun {e} g1 s1 => by
    obtain ⟨r, er, g1⟩ := g1.lift
    exact ⟨F1, [d], r, s1.sub, .cons hv .nil, er, Good.pst g1 s1 ev1.dom fun z => by cases z⟩
  cases d with
  | obj j fs =>
    obtain ⟨a, C', dx, vs, rfl, hC, sl, rr⟩ := obj_slt s1.sub hv
    simp only at g1
    cases hat : c.at_ j 0 with
    | none => rw [hat] at g1; exact (show False from g1).elim
    | some t =>
      rw [hat] at g1
      cases t with
      | meth i =>
        obtain ⟨g, hm, fr⟩ := C.cl.meth j 0 i C' hat hC
        rw [C.an.1] at hm
        refine .inr ⟨a, C', dx, vs.map some, g, i, rfl, sl, C.cl.cls j 0 _ C' hat hC, hm, fr 1, fun σ' => ?_⟩
        have := call_core (c := c) (ds := []) (vs := []) (Q := fun r H' => ∃ n, r = .int n ∧ 0 ≤ n ∧ n < big ∧ Q (.int n) H') .refl s1 (ls := none) (.inl ⟨_, rfl, hv⟩) .nil (g1.calmB.mono fun d e H' F' ow' ev sg hq v hv' => ?_)
        · exact this
        · cases d with
          | int n =>
            have hv' : Rep fa X.K F' (.int n) v := by revert hv'; cases c.own i <;> exact fun h => h
            cases hv'
            simp only at hq
            split at hq
            · rename_i hn
              exact ⟨n, rfl, hn.1, hn.2, (hq.out sg).same sg.sub (.int n)⟩
            · exact (show False from hq).elim
          | _ => exact (show False from hq).elim
      | _ => exact (show False from g1).elim
  | _ => exact .inl (other g1 s1)
/-- y in o, y not in o -/
def rOin (lev : Nat) (X : Cx) (fa : Nat → Option Addr) (xr : XR) (c : Cfg) (n : Bool) : R2 := fun x y H Q => rB fa X.K (cmpD (if n then .NotIn else .In)) x y H Q ∨ ∃ a C' dx vs g i, y = V.ref a ∧ SlX.Slt H a C' dx vs ∧ SlX.SCls X.K C' ∧ Meth X.K C' "__contains__" g ∧ FnR X.prog X.w X.K X.mg X.base (L2.CX X.prog X.w) lev g (spF fa X.K xr c i 2) ∧
  ∀ σ : L2.St, spF fa X.K xr c i 2 [.ref a, x] H (fun r H' => ∃ b, r = .bl b ∧ Q (.bl (b != n)) H') (WE W0 σ)
theorem oin_sound (C : Ctx lev fa xr m c sc W X) (n : Bool) : OpR X (compareOp (if n then .NotIn else .In)) (rOin lev X fa xr c n) := by
  intro pins s σ H x y v u Q I rx ry h
  rcases h with h | ⟨a, C', dx, vs, g, i, rfl, sl, sc', hm, fr, q⟩
  · exact cmp_sound (fa := fa) (if n then .NotIn else .In) C.units pins s σ H x y v u Q I rx ry h
  · obtain rfl : u = Value.ref a := ry
    obtain ⟨sls, od, _, J, _⟩ := SlX.slt_inst I sl
    obtain ⟨mm, hF⟩ := I.fr
    have run : wpAny (model X.prog X.w) X.A (PySem.call (.ref g) [.ref a, v]) (fun r s' => wpAny (model X.prog X.w) X.A (truthy r) (fun b s' => EP X pins σ Q (.bool (b != n)) s') X.xe s') X.xe s := by
      refine wpAny_mono (wpAny_call (fnr_at (us := [.ref a, v]) (vs := [.ref a, x]) (A := X.A) fr C.hr I.env0 takes0 I (.cons rfl (.cons rx .nil)) (q σ))) (fun w s' z => ?_) fun _ _ x => x
      obtain ⟨z', H', I', rz, b, ez, qz⟩ := z
      subst ez
      obtain rfl : w = Value.bool b := rz
      exact wpAny_truthy_bool ⟨.bl _, H', I', rfl, qz⟩
    cases n with
    | true => exact PySem.W.notIn_K hF I.ok.mod.kin J hm.at_ hm.fn (wpAny_mono run (fun r s' h => wpAny_mono h (fun b s' h => by cases b <;> exact h) fun _ _ x => x) fun _ _ x => x)
    | false => exact PySem.W.in_K hF I.ok.mod.kin J hm.at_ hm.fn (wpAny_mono run (fun r s' h => wpAny_mono h (fun b s' h => by cases b <;> exact h) fun _ _ x => x) fun _ _ x => x)
theorem oin_step (C : Ctx lev fa xr m c sc W X) {n : Bool} {d y : D} {v w : V} {e : En} {Q : D → En → Hp → Hp → Ow → Prop} {R : VK} (hv : Rep fa X.K F1 y w) (hd : Rep fa X.K F1 d v) (s1 : Gst fa X.K H1 F1 ow1 e σ)
    (g : Good fa X.K xr W σ H1 F1 ow1 (match (generalizing := false) d with
      | .obj j _ => (match c.at_ j 1 with
        | some (.meth i) => (doCall c i [.val d, .val y] none e).calm.bind fun r e => (match r with | .bl b => .ok (.bl (b != n)) e | _ => .no)
        | _ => .no)
      | d => lift ((inD y d).map fun b => .bl (b != n)) e) Q)
    (hQ : ∀ {b : Bool} {e : En} {H' F' : Hp} {ow' : Ow}, Evo H1 F1 ow1 H' F' ow' → Gst fa X.K H' F' ow' e σ → Good fa X.K xr W σ H' F' ow' (.ok (.bl b) e : Mi.R D) Q → R (.bl b) H') : rOin lev X fa xr c n w v H1 R := by
  have other : ∀ {d : D} {v : V}, Rep fa X.K F1 d v → Good fa X.K xr W σ H1 F1 ow1 (lift ((inD y d).map fun b => .bl (b != n)) e) Q → rB fa X.K (cmpD (if n then .NotIn else .In)) w v H1 R := fun {d v} hd g => by
    obtain ⟨r, er, g⟩ := Good.lift g
    obtain ⟨b, e1, e2⟩ := Option.map_eq_some_iff.mp er
    subst e2
    refine ⟨F1, y, d, b != n, s1.sub, hv, hd, ?_, hQ .refl s1 g⟩
    cases n <;> simp [cmpD, e1]
  cases d with
  | obj j fs =>
    obtain ⟨a, C', dx, vs, rfl, hC, sl, rr⟩ := obj_slt s1.sub hd
    simp only at g
    cases hat : c.at_ j 1 with
    | none => rw [hat] at g; exact (show False from g).elim
    | some t =>
      rw [hat] at g
      cases t with
      | meth i =>
        obtain ⟨gg, hm, fr⟩ := C.cl.meth j 1 i C' hat hC
        rw [C.an.2] at hm
        refine .inr ⟨a, C', dx, vs.map some, gg, i, rfl, sl, C.cl.cls j 1 _ C' hat hC, hm, fr 2, fun σ' => ?_⟩
        have := call_core (c := c) (ds := [y]) (vs := [w]) (Q := fun r H' => ∃ b, r = .bl b ∧ R (.bl (b != n)) H') .refl s1 (ls := none) (.inl ⟨_, rfl, hd⟩) (.cons hv .nil) (g.calmB.mono fun d e H' F' ow' ev sg hq v hv' => ?_)
        · exact this
        · cases d with
          | bl b =>
            have hv' : Rep fa X.K F' (.bl b) v := by revert hv'; cases c.own i <;> exact fun h => h
            cases hv'
            exact ⟨b, rfl, hQ ev sg hq⟩
          | _ => exact (show False from hq).elim
      | _ => exact (show False from g).elim
  | _ => exact .inl (other hd g)
theorem snd_oin (C : Ctx lev fa xr m c sc W X) {n : Bool} {a o : CE} {ea eo : Expr} {pos : Pos} (ha : PE X ea (tE fa X.K xr false W a)) (ho : PE X eo (tE fa X.K xr false W o)) (hn : behindInMarks (if n then .NotIn else .In) eo = false) :
    PE X (.Compare ea [if n then .NotIn else .In] [eo] pos) (tE fa X.K xr false W (xOin c n a o)) ∧ PT X (.Compare ea [if n then .NotIn else .In] [eo] pos) (tT fa X.K xr W (tru' (xOin c n a o))) := by
  constructor
  · refine (pe_cmpR (oin_sound C n) ha ho hn).imp fun σ H Q ⟨F, ow, env, s, g⟩ => ⟨F, ow, env, s, ?_⟩
    refine g.bind.mono fun d e1 H1 F1 ow1 ev1 s1 g1 v hv => ⟨F1, ow1, e1, s1, ?_⟩
    refine g1.bind.mono fun d2 e2 H2 F2 ow2 ev2 s2 g2 v2 hv2 => ?_
    exact oin_step C ((hv.rep (fr := false)).mono ev2.mono) (hv2.rep (fr := false)) s2 g2 fun ev sg g => (g.out sg).same sg.sub (.bl _)
  · refine (pt_cmpR (oin_sound C n) ha ho hn).imp fun σ H Q ⟨F, ow, env, s, g⟩ => ⟨F, ow, env, s, ?_⟩
    have g := (Good.bind (r := xOin c n a o env) g)
    unfold xOin at g
    refine g.bind.mono fun d e1 H1 F1 ow1 ev1 s1 g1 v hv => ⟨F1, ow1, e1, s1, ?_⟩
    refine g1.bind.mono fun d2 e2 H2 F2 ow2 ev2 s2 g2 v2 hv2 => ?_
    refine oin_step C ((hv.rep (fr := false)).mono ev2.mono) (hv2.rep (fr := false)) s2 g2 fun {b e H' F' ow'} ev sg g => ⟨b, rfl, ?_⟩
    have g := g.ok sg
    obtain ⟨k, ek, g⟩ := Good.lift g
    cases ek
    exact g.ok sg
end
end Mi
end
section
/-! {k: v for ..}, [x for .. for ..] -/
namespace Mi
open PySem L2 PySem.Spec
section
variable {lev : Nat} {fa : Nat → Option Addr} {xr : XR} {m : Nm} {c : Cfg} {sc : Scope} {W : WX} {X : Cx} {F H F1 H1 : Hp} {ow ow1 : Ow} {σ : L2.St} {K : PySem.W.Frag}
theorem loopG_cons {α : Type} {tg : Tg} {bd : α → En → R α} {own : List Nat} {x : D} {xs : List D} {acc : α} {e : En} : loopG tg bd own (x :: xs) acc e = match bindL (wipeL e own) tg x with
    | some e => (bd acc e).bind fun acc e => loopG tg bd own xs acc e
    | none => .no := by
  show wipeE own e (fun e => bindTg e tg x (fun e => (bd acc e).bind fun acc e => loopG tg bd own xs acc e) .no) = _
  rw [wipeE_eq, bindTg_eq]
  all_goals rfl
/-- what no one tells of and no one owns stays -/
theorem flo_keep {D : Addr} {o : HO} (ev : Evo H F ow H1 F1 ow1) (hH : H D = some o) (hF : F D = none) (hO : ow D = none) : H1 D = some o ∧ F1 D = none ∧ ow1 D = none := by
  refine ⟨ev.keep D _ hH (by rw [hO]; rfl), ?_, ?_⟩
  · cases q : F1 D with
    | none => rfl
    | some z => rcases ev.newF D (by rw [q]; simp) with z | z | z; exact absurd hF z; exact absurd hO z; rw [hH] at z; cases z
  · cases q : ow1 D with
    | none => rfl
    | some z => rcases ev.newO D (by rw [q]; simp) with z | z; exact absurd hO z; rw [hH] at z; cases z
theorem length_putD (kvs : List (Key × D)) (k : Key) (d : D) : (putD kvs k d).length ≤ kvs.length + 1 := by
  unfold putD
  split
  · rw [List.length_map]; omega
  · rw [List.length_append]; simp
theorem RepK.mono' (h : Sub F F1) {ds : List (Key × D)} {vs : List (Key × V)} (r : RepK fa K F ds vs) : RepK fa K F1 ds vs := RepK.mono h r
theorem wipeL_wipeL {e : En} {vs ws : List Nat} (h : ∀ i ∈ vs, i ∈ ws) : wipeL (wipeL e vs) ws = wipeL e ws := by
  refine List.ext_getElem? fun j => ?_
  by_cases hlt : j < e.length
  · have l1 : j < (wipeL (wipeL e vs) ws).length := by rw [wipeL_len, wipeL_len]; exact hlt
    have l2 : j < (wipeL e ws).length := by rw [wipeL_len]; exact hlt
    rw [List.getElem?_eq_getElem l1, List.getElem?_eq_getElem l2]
    rcases wipeL_get (List.getElem?_eq_getElem l1) with ⟨a, b⟩ | ⟨a, b⟩ <;> rcases wipeL_get (List.getElem?_eq_getElem l2) with ⟨a', b'⟩ | ⟨a', b'⟩
    · rw [b, b']
    · exact absurd a a'
    · exact absurd a' a
    · rcases wipeL_get b with ⟨x, _⟩ | ⟨_, x⟩
      · exact absurd (h j x) a
      · rw [← x, ← b']
  · rw [List.getElem?_eq_none (by rw [wipeL_len, wipeL_len]; omega), List.getElem?_eq_none (by rw [wipeL_len]; omega)]
theorem wipe_sub {σ : L2.St} {vs ws : List Nat} (h : ∀ i ∈ vs, i ∈ ws) : wipe (wipe σ vs) ws = wipe σ ws := wipe_ext (by rw [wipe_length]) fun j hj => wipe_out fun z => hj (h j z)
/-- {k: v for tg in it if ..} -/
theorem tdc_of {own : List Nat} {tg : Tg} {it : It} {i : CI} {kc vc : CE} {ifs : CL} {Q : VK} (ht : tgIn own tg = true) (h : tE fa K xr true W (xDcomp c own tg it kc vc i ifs) σ H Q) :
    tDc (tI fa K xr W i) (tgR K tg) (tT fa K xr W0 (tsC ifs)) (tE fa K xr false W0 kc) (tE fa K xr false W0 vc) own σ H Q := by
  obtain ⟨F, ow, e, s, g⟩ := h
  refine ⟨F, ow, e, s, ?_⟩
  let bd : List (Key × D) → En → R (List (Key × D)) := fun acc e => (tsC ifs e).bind fun b e => if b then (kc e).bind fun y e => (vc e).bind fun z e => lift ((keyD y).map fun y => putD acc y z) e else .ok acc e
  have g : Good fa K xr W σ H F ow ((i e).bind fun xs e₁ => if own.all (fun i => plainP (gt e₁ i) && !c.lent i) && decide (xs.length < sizeLine) then
        wipeE own e₁ fun e₁'' => match loopG tg bd own xs [] e₁'' with
        | .ok ds e₂ => backE e₁ own e₂ fun e₂ => Mi.R.ok (D.dct ds) e₂
        | _ => (Mi.R.no : Mi.R D)
      else (Mi.R.no : Mi.R D)) _ := g
  refine g.bind.mono fun xs e₁ H1 F1 ow1 ev1 s1 g1 J wk D hD => ?_
  split at g1
  · rename_i hc
    simp only [Bool.and_eq_true, List.all_eq_true, decide_eq_true_eq] at hc
    obtain ⟨hpl, hsz⟩ := hc
    rw [wipeE_eq] at g1
    cases hr : loopG tg bd own xs [] (wipeL e₁ own) with
    | no => rw [hr] at g1; exact (show False from g1).elim
    | ex x e => rw [hr] at g1; exact (show False from g1).elim
    | ok ds e₂ =>
      rw [hr] at g1
      simp only [backE_eq] at g1
      have hF1 : F1 D = none := s1.sub.noneOf hD
      have hO1 : ow1 D = none := by
        cases q : ow1 D with
        | none => rfl
        | some z => exact absurd hD (s1.own D z q).2
      refine ⟨fun i m H' => ∃ F' ow' e' acc vs, i ≤ xs.length ∧ m = xs.length - i ∧ acc.length ≤ i ∧ Evo H1 F1 ow1 H' F' ow' ∧ Gst fa K H' F' ow' (wipeL e' own) (wipe σ own) ∧ H' D = some (.dK vs) ∧ F' D = none ∧ ow' D = none ∧ RepK fa K F' acc vs ∧
        loopG tg bd own (xs.drop i) acc e' = .ok ds e₂, ⟨xs.length, F1, ow1, wipeL e₁ own, [], [], Nat.zero_le _, rfl, Nat.le_refl _, Evo.over .refl hD, ?_, upd_same, hF1, hO1, .nil, hr⟩, ?_⟩
      · exact ((s1.wipe (τ := σ) rfl).over hF1 hO1).wipe (τ := σ) wipe_wipe
      · rintro i m H' ⟨F', ow', e', acc, vs, hi, rfl, hacc, ev, s', hH', hF', hO', rr, hl⟩
        by_cases hlt : i < xs.length
        · refine .inr ?_
          have hx : xs[i]? = some xs[i] := List.getElem?_eq_getElem hlt
          rw [List.drop_eq_getElem_cons hlt, loopG_cons] at hl
          obtain ⟨hgo, hy⟩ := wk.go H' F' ow' ev.mono s'.sub i _ hx
          refine ⟨hgo, fun H'' => ∃ F' ow' e' acc vs, acc.length ≤ i + 1 ∧ Evo H1 F1 ow1 H'' F' ow' ∧ Gst fa K H'' F' ow' (wipeL e' own) (wipe σ own) ∧ H'' D = some (.dK vs) ∧ F' D = none ∧ ow' D = none ∧ RepK fa K F' acc vs ∧
            loopG tg bd own (xs.drop (i + 1)) acc e' = .ok ds e₂, fun H'' ⟨F', ow', e', acc, vs, a1, a2, a3, a4, a5, a6, a7, a8⟩ => ⟨xs.length - (i + 1), by omega, F', ow', e', acc, vs, by omega, rfl, a1, a2, a3, a4, a5, a6, a7, a8⟩, fun x H'' y => ?_⟩
          obtain ⟨F'', gr, rx⟩ := hy x H'' y
          have s'' := s'.grow gr
          cases hb' : bindL (wipeL e' own) tg xs[i] with
          | none => rw [hb'] at hl; cases hl
          | some eb =>
            rw [hb'] at hl
            simp only at hl
            refine tg_sound s'' rx hb' fun σ2 s2 hw => ⟨by rw [hw own ht, wipe_wipe], F'', ow', eb, s2, ?_⟩
            have hw2 : wipe σ2 own = wipe σ own := by rw [hw own ht, wipe_wipe]
            have evG : Evo H' F' ow' H'' F'' ow' := .grow gr
            obtain ⟨hD2, hF2, hO2⟩ := flo_keep evG hH' hF' hO'
            cases ht' : tsC ifs eb with
            | no => simp only [bd, ht'] at hl; cases hl
            | ex _ _ => simp only [bd, ht'] at hl; cases hl
            | ok b et =>
              simp only [bd, ht'] at hl
              have hl : ((if b then (kc et).bind fun y e => (vc e).bind fun z e => lift ((keyD y).map fun y => putD acc y z) e else .ok acc et) : Mi.R (List (Key × Mi.D))).bind (fun acc e => loopG tg bd own (xs.drop (i + 1)) acc e) = .ok ds e₂ := hl
              intro H3 F3 ow3 ev3 s3
              have evA : Evo H1 F1 ow1 H3 F3 ow3 := (ev.trans evG).trans ev3
              obtain ⟨hD3, hF3, hO3⟩ := flo_keep ev3 hD2 hF2 hO2
              have r3 : RepK fa K F3 acc vs := (rr.mono' gr.mono).mono' ev3.mono
              cases b with
              | false =>
                simp only [Bool.false_eq_true, if_false] at hl ⊢
                exact ⟨F3, ow3, et, acc, vs, by omega, evA, s3.wipe hw2, hD3, hF3, hO3, r3, hl⟩
              | true =>
                simp only [if_true] at hl ⊢
                refine ⟨F3, ow3, et, s3, ?_⟩
                cases hk : kc et with
                | no => rw [hk] at hl; cases hl
                | ex _ _ => rw [hk] at hl; cases hl
                | ok d ed =>
                  rw [hk] at hl
                  have hl : ((vc ed).bind fun z e => lift ((keyD d).map fun y => putD acc y z) e).bind (fun acc e => loopG tg bd own (xs.drop (i + 1)) acc e) = .ok ds e₂ := hl
                  intro H4 F4 ow4 ev4 s4 v hv
                  have rv := hv.rep (fr := false)
                  obtain ⟨hD4, hF4, hO4⟩ := flo_keep ev4 hD3 hF3 hO3
                  refine ⟨F4, ow4, ed, s4, ?_⟩
                  cases hz : vc ed with
                  | no => rw [hz] at hl; cases hl
                  | ex _ _ => rw [hz] at hl; cases hl
                  | ok d2 ed2 =>
                    rw [hz] at hl
                    have hl : (lift ((keyD d).map fun y => putD acc y d2) ed2).bind (fun acc e => loopG tg bd own (xs.drop (i + 1)) acc e) = .ok ds e₂ := hl
                    rw [lift_bind] at hl
                    intro H5 F5 ow5 ev5 s5 v2 hv2
                    have rv2 := hv2.rep (fr := false)
                    obtain ⟨hD5, hF5, hO5⟩ := flo_keep ev5 hD4 hF4 hO4
                    have r5 : RepK fa K F5 acc vs := (r3.mono' ev4.mono).mono' ev5.mono
                    cases hkd : keyD d with
                    | none => rw [hkd] at hl; cases hl
                    | some kk =>
                      rw [hkd] at hl
                      obtain ⟨y1, y2⟩ := rv.keyK hkd
                      refine ⟨vs, kk, y1, hD5, by rw [← r5.length]; omega, F5, ow5, ed2, putD acc kk d2, putK vs kk v2, ?_, ((evA.trans ev4).trans ev5).over hD, (s5.over hF5 hO5).wipe hw2, upd_same, hF5, hO5, r5.put y2 rv2, hl⟩
                      have := length_putD acc kk d2
                      omega
        · have e : i = xs.length := by omega
          subst e
          refine .inl ⟨wk.stop H' F' ow' ev.mono s'.sub, ?_⟩
          rw [List.drop_length] at hl
          have hl : (Mi.R.ok acc e' : Mi.R (List (Key × Mi.D))) = .ok ds e₂ := hl
          cases hl
          have sb := s1.back (vs := own) (fun i h => by have := hpl i h; simpa using this.1) ev s'
          refine g1 H' F' ow' ev sb (.ref D) ?_
          exact ⟨D, vs, rfl, Classical.byContradiction fun z => ev1.dom D z hD, hH', hF', hO', rr⟩
  · exact (show False from g1).elim
theorem snd_dcomp (C : Ctx lev fa xr m c sc W X) {own : List Nat} {tg : Tg} {it : It} {i : CI} {kc vc : CE} {ifs : CL} {et ei ke ve : Expr} {es : List Expr} {s : Scope} {pos : Pos} (h1 : blkC m.N sc s (ownOk m.N own) = true) (ht : tgIn own tg = true) (h2 : tgC m.N s tg et = true)
    (hi : PI X et ei (tI fa X.K xr W i)) (hf : ∀ x, foldedSetIterable ei X.env x = pure x)
    (hif : ∀ (X' : Cx), Ctx lev fa xr m c s W0 X' → X'.K = X.K → PTs X' es (tT fa X.K xr W0 (tsC ifs))) (hk : ∀ (X' : Cx), Ctx lev fa xr m c s W0 X' → X'.K = X.K → PE X' ke (tE fa X.K xr false W0 kc)) (hv : ∀ (X' : Cx), Ctx lev fa xr m c s W0 X' → X'.K = X.K → PE X' ve (tE fa X.K xr false W0 vc)) :
    PE X (.DictComp ke ve [⟨et, ei, es, 0⟩] s pos) (tE fa X.K xr true W (xDcomp c own tg it kc vc i ifs)) := by
  have hown : (ownOk m.N own).map (·.2) = own := by unfold ownOk; rw [List.map_map]; exact List.map_id _
  have key := pe_dc (pos := pos) (g := tgR X.K tg) C.calm (by rw [C.hN]; exact C.nd) hi (C.blkOk h1) (fun s' H' a cl fp => pg_tg (C.blk (cl := cl) (a := a) (sh := s') (H := H') (fp := fp)) h2) (fun s' H' a cl fp => hif _ (C.blk (cl := cl) (a := a) (sh := s') (H := H') (fp := fp)) rfl)
    (fun s' H' a cl fp => hk _ (C.blk (cl := cl) (a := a) (sh := s') (H := H') (fp := fp)) rfl) (fun s' H' a cl fp => hv _ (C.blk (cl := cl) (a := a) (sh := s') (H := H') (fp := fp)) rfl) hf
  rw [hown] at key
  exact key.imp fun σ H Q h => tdc_of ht h
/-- [x for tg in it if .. for tg2 in it2 if ..] -/
theorem tlc2_of {own own2 : List Nat} {tg tg2 : Tg} {i i2 : CI} {elt : CE} {ifs ifs2 : CL} {Q : VK} (ht : tgIn own tg = true) (ht2 : tgIn own2 tg2 = true) (hsub : ∀ i ∈ own2, i ∈ own) (h : tE fa K xr true W (xComp2 c own own2 tg tg2 elt i i2 ifs ifs2) σ H Q) :
    tLc2 (tI fa K xr W i) (tgR K tg) (tT fa K xr W0 (tsC ifs)) (tI fa K xr W0 i2) (tgR K tg2) (tT fa K xr W0 (tsC ifs2)) (tE fa K xr false W0 elt) own own2 σ H Q := by
  obtain ⟨F, ow, e, s, g⟩ := h
  refine ⟨F, ow, e, s, ?_⟩
  let bd2 : List D → En → R (List D) := fun acc e => (tsC ifs2 e).bind fun b e => if b then (elt e).bind fun d e => if acc.length < sizeLine then .ok (d :: acc) e else .no else .ok acc e
  let bd : List D → En → R (List D) := fun acc e => (tsC ifs e).bind fun b e => if b then (i2 e).bind fun ys e => loopG tg2 bd2 own2 ys acc e else .ok acc e
  have g : Good fa K xr W σ H F ow ((i e).bind fun xs e₁ => if own.all (fun i => plainP (gt e₁ i) && !c.lent i) then
        wipeE own e₁ fun e₁'' => match loopG tg bd own xs [] e₁'' with
        | .ok ds e₂ => backE e₁ own e₂ fun e₂ => Mi.R.ok (D.lst ds.reverse) e₂
        | _ => (Mi.R.no : Mi.R D)
      else (Mi.R.no : Mi.R D)) _ := g
  refine g.bind.mono fun xs e₁ H1 F1 ow1 ev1 s1 g1 J wk D hD => ?_
  split at g1
  · rename_i hc
    simp only [Bool.and_eq_true, List.all_eq_true] at hc
    rw [wipeE_eq] at g1
    cases hr : loopG tg bd own xs [] (wipeL e₁ own) with
    | no => rw [hr] at g1; exact (show False from g1).elim
    | ex x e => rw [hr] at g1; exact (show False from g1).elim
    | ok ds e₂ =>
      rw [hr] at g1
      simp only [backE_eq] at g1
      have hF1 : F1 D = none := s1.sub.noneOf hD
      have hO1 : ow1 D = none := by
        cases q : ow1 D with
        | none => rfl
        | some z => exact absurd hD (s1.own D z q).2
      refine ⟨fun i m H' => ∃ F' ow' e' acc vs, i ≤ xs.length ∧ m = xs.length - i ∧ Evo H1 F1 ow1 H' F' ow' ∧ Gst fa K H' F' ow' (wipeL e' own) (wipe σ own) ∧ H' D = some (.lst vs) ∧ F' D = none ∧ ow' D = none ∧ RepL fa K F' acc.reverse vs ∧
        loopG tg bd own (xs.drop i) acc e' = .ok ds e₂, ⟨xs.length, F1, ow1, wipeL e₁ own, [], [], Nat.zero_le _, rfl, Evo.over .refl hD, ?_, upd_same, hF1, hO1, .nil, hr⟩, ?_⟩
      · exact ((s1.wipe (τ := σ) rfl).over hF1 hO1).wipe (τ := σ) wipe_wipe
      · rintro i m H' ⟨F', ow', e', acc, vs, hi, rfl, ev, s', hH', hF', hO', rr, hl⟩
        by_cases hlt : i < xs.length
        · refine .inr ?_
          have hx : xs[i]? = some xs[i] := List.getElem?_eq_getElem hlt
          rw [List.drop_eq_getElem_cons hlt, loopG_cons] at hl
          obtain ⟨hgo, hy⟩ := wk.go H' F' ow' ev.mono s'.sub i _ hx
          refine ⟨hgo, fun H'' => ∃ F' ow' e' acc vs, Evo H1 F1 ow1 H'' F' ow' ∧ Gst fa K H'' F' ow' (wipeL e' own) (wipe σ own) ∧ H'' D = some (.lst vs) ∧ F' D = none ∧ ow' D = none ∧ RepL fa K F' acc.reverse vs ∧
            loopG tg bd own (xs.drop (i + 1)) acc e' = .ok ds e₂, fun H'' ⟨F', ow', e', acc, vs, a2, a3, a4, a5, a6, a7, a8⟩ => ⟨xs.length - (i + 1), by omega, F', ow', e', acc, vs, by omega, rfl, a2, a3, a4, a5, a6, a7, a8⟩, fun x H'' y => ?_⟩
          obtain ⟨F'', gr, rx⟩ := hy x H'' y
          have s'' := s'.grow gr
          cases hb' : bindL (wipeL e' own) tg xs[i] with
          | none => rw [hb'] at hl; cases hl
          | some eb =>
            rw [hb'] at hl
            simp only at hl
            refine tg_sound s'' rx hb' fun σ2 s2 hw => ⟨by rw [hw own ht, wipe_wipe], F'', ow', eb, s2, ?_⟩
            have hw2 : wipe σ2 own = wipe σ own := by rw [hw own ht, wipe_wipe]
            have evG : Evo H' F' ow' H'' F'' ow' := .grow gr
            obtain ⟨hD2, hF2, hO2⟩ := flo_keep evG hH' hF' hO'
            cases ht' : tsC ifs eb with
            | no => simp only [bd, ht'] at hl; cases hl
            | ex _ _ => simp only [bd, ht'] at hl; cases hl
            | ok b et =>
              simp only [bd, ht'] at hl
              have hl : ((if b then (i2 et).bind fun ys e => loopG tg2 bd2 own2 ys acc e else .ok acc et) : Mi.R (List Mi.D)).bind (fun acc e => loopG tg bd own (xs.drop (i + 1)) acc e) = .ok ds e₂ := hl
              intro H3 F3 ow3 ev3 s3
              have evA : Evo H1 F1 ow1 H3 F3 ow3 := (ev.trans evG).trans ev3
              obtain ⟨hD3, hF3, hO3⟩ := flo_keep ev3 hD2 hF2 hO2
              have r3 : RepL fa K F3 acc.reverse vs := rr.mono (gr.mono.trans ev3.mono)
              cases b with
              | false =>
                simp only [Bool.false_eq_true, if_false] at hl ⊢
                exact ⟨F3, ow3, et, acc, vs, evA, s3.wipe hw2, hD3, hF3, hO3, r3, hl⟩
              | true =>
                simp only [if_true] at hl ⊢
                refine ⟨F3, ow3, et, s3, ?_⟩
                cases hk : i2 et with
                | no => rw [hk] at hl; cases hl
                | ex _ _ => rw [hk] at hl; cases hl
                | ok ys e4 =>
                  rw [hk] at hl
                  have hl : (loopG tg2 bd2 own2 ys acc e4).bind (fun acc e => loopG tg bd own (xs.drop (i + 1)) acc e) = .ok ds e₂ := hl
                  intro H4 F4 ow4 ev4 s4 J1 wk1
                  obtain ⟨hD4, hF4, hO4⟩ := flo_keep ev4 hD3 hF3 hO3
                  have r4 := r3.mono ev4.mono
                  cases hin : loopG tg2 bd2 own2 ys acc e4 with
                  | no => rw [hin] at hl; cases hl
                  | ex _ _ => rw [hin] at hl; cases hl
                  | ok acc2 e3 =>
                    rw [hin] at hl
                    have hl : loopG tg bd own (xs.drop (i + 1)) acc2 e3 = .ok ds e₂ := hl
                    refine ⟨fun j k H' => ∃ F' ow' e' acc vs, j ≤ ys.length ∧ k = ys.length - j ∧ Sub F4 F' ∧ Gst fa K H' F' ow' (wipeL e' own2) (wipe σ2 own2) ∧ H' D = some (.lst vs) ∧ F' D = none ∧ ow' D = none ∧ RepL fa K F' acc.reverse vs ∧
                      loopG tg2 bd2 own2 (ys.drop j) acc e' = .ok acc2 e3 ∧ Evo H1 F1 ow1 H' F' ow', ⟨ys.length, F4, ow4, e4, acc, vs, Nat.zero_le _, rfl, Sub.refl, s4.wipe rfl, hD4, hF4, hO4, r4, hin, evA.trans ev4⟩, ?_⟩
                    rintro j k H5 ⟨F5, ow5, e5, acc5, vs5, hj, rfl, ev5, s5, hD5, hF5, hO5, r5, hl5, evT⟩
                    by_cases hlt2 : j < ys.length
                    · refine .inr ?_
                      have hx2 : ys[j]? = some ys[j] := List.getElem?_eq_getElem hlt2
                      rw [List.drop_eq_getElem_cons hlt2, loopG_cons] at hl5
                      obtain ⟨hgo2, hy2⟩ := wk1.go H5 F5 ow5 ev5 s5.sub j _ hx2
                      refine ⟨hgo2, fun H' => ∃ F' ow' e' acc vs, Sub F4 F' ∧ Gst fa K H' F' ow' (wipeL e' own2) (wipe σ2 own2) ∧ H' D = some (.lst vs) ∧ F' D = none ∧ ow' D = none ∧ RepL fa K F' acc.reverse vs ∧
                        loopG tg2 bd2 own2 (ys.drop (j + 1)) acc e' = .ok acc2 e3 ∧ Evo H1 F1 ow1 H' F' ow', fun H' ⟨F', ow', e', acc, vs, a2, a3, a4, a5, a6, a7, a8, a9⟩ => ⟨ys.length - (j + 1), by omega, F', ow', e', acc, vs, by omega, rfl, a2, a3, a4, a5, a6, a7, a8, a9⟩, fun x2 H6 y2 => ?_⟩
                      obtain ⟨F6, gr6, rx6⟩ := hy2 x2 H6 y2
                      have s6 := s5.grow gr6
                      cases hb6 : bindL (wipeL e5 own2) tg2 ys[j] with
                      | none => rw [hb6] at hl5; cases hl5
                      | some eb6 =>
                        rw [hb6] at hl5
                        simp only at hl5
                        refine tg_sound s6 rx6 hb6 fun σ3 s7 hw7 => ⟨by rw [hw7 own2 ht2, wipe_wipe], F6, ow5, eb6, s7, ?_⟩
                        have hw8 : wipe σ3 own2 = wipe σ2 own2 := by rw [hw7 own2 ht2, wipe_wipe]
                        have evG6 : Evo H5 F5 ow5 H6 F6 ow5 := .grow gr6
                        obtain ⟨hD6, hF6, hO6⟩ := flo_keep evG6 hD5 hF5 hO5
                        cases ht6 : tsC ifs2 eb6 with
                        | no => simp only [bd2, ht6] at hl5; cases hl5
                        | ex _ _ => simp only [bd2, ht6] at hl5; cases hl5
                        | ok b6 et6 =>
                          simp only [bd2, ht6] at hl5
                          have hl5 : ((if b6 then (elt et6).bind fun d e => if acc5.length < sizeLine then .ok (d :: acc5) e else .no else .ok acc5 et6) : Mi.R (List Mi.D)).bind (fun acc e => loopG tg2 bd2 own2 (ys.drop (j + 1)) acc e) = .ok acc2 e3 := hl5
                          intro H7 F7 ow7 ev7 s8
                          obtain ⟨hD7, hF7, hO7⟩ := flo_keep ev7 hD6 hF6 hO6
                          have r7 : RepL fa K F7 acc5.reverse vs5 := r5.mono (gr6.mono.trans ev7.mono)
                          cases b6 with
                          | false =>
                            simp only [Bool.false_eq_true, if_false] at hl5 ⊢
                            exact ⟨F7, ow7, et6, acc5, vs5, (ev5.trans gr6.mono).trans ev7.mono, s8.wipe hw8, hD7, hF7, hO7, r7, hl5, (evT.trans evG6).trans ev7⟩
                          | true =>
                            simp only [if_true] at hl5 ⊢
                            refine ⟨F7, ow7, et6, s8, ?_⟩
                            cases he6 : elt et6 with
                            | no => rw [he6] at hl5; cases hl5
                            | ex _ _ => rw [he6] at hl5; cases hl5
                            | ok d8 ed8 =>
                              rw [he6] at hl5
                              intro H8 F8 ow8 ev8 s9 v8 hv8
                              have rv8 := hv8.rep (fr := false)
                              obtain ⟨hD8, hF8, hO8⟩ := flo_keep ev8 hD7 hF7 hO7
                              have r8 := r7.mono ev8.mono
                              by_cases hz : acc5.length < sizeLine
                              · have hl5 : loopG tg2 bd2 own2 (ys.drop (j + 1)) (d8 :: acc5) ed8 = .ok acc2 e3 := by
                                  have hl5 : ((if acc5.length < sizeLine then .ok (d8 :: acc5) ed8 else .no) : Mi.R (List Mi.D)).bind (fun acc e => loopG tg2 bd2 own2 (ys.drop (j + 1)) acc e) = .ok acc2 e3 := hl5
                                  rw [if_pos hz] at hl5
                                  exact hl5
                                have ln := r8.length
                                rw [List.length_reverse] at ln
                                refine ⟨vs5, hD8, by omega, F8, ow8, ed8, d8 :: acc5, vs5 ++ [v8], ((ev5.trans gr6.mono).trans ev7.mono).trans ev8.mono, (s9.over hF8 hO8).wipe hw8, upd_same, hF8, hO8, ?_, hl5, (((evT.trans evG6).trans ev7).trans ev8).over hD⟩
                                rw [List.reverse_cons]
                                exact r8.append (.cons rv8 .nil)
                              · have hl5 : ((if acc5.length < sizeLine then .ok (d8 :: acc5) ed8 else .no) : Mi.R (List Mi.D)).bind (fun acc e => loopG tg2 bd2 own2 (ys.drop (j + 1)) acc e) = .ok acc2 e3 := hl5
                                rw [if_neg hz] at hl5
                                cases hl5
                    · have e : j = ys.length := by omega
                      subst e
                      refine .inl ⟨wk1.stop H5 F5 ow5 ev5 s5.sub, ?_⟩
                      rw [List.drop_length] at hl5
                      have hl5 : (Mi.R.ok acc5 e5 : Mi.R (List Mi.D)) = .ok acc2 e3 := hl5
                      cases hl5
                      refine ⟨F5, ow5, e3, acc2, vs5, evT, ?_, hD5, hF5, hO5, r5, hl⟩
                      have := s5.wipe (vs := own) (τ := σ) (by rw [wipe_sub hsub, hw2])
                      rwa [wipeL_wipeL hsub] at this
        · have e : i = xs.length := by omega
          subst e
          refine .inl ⟨wk.stop H' F' ow' ev.mono s'.sub, ?_⟩
          rw [List.drop_length] at hl
          have hl : (Mi.R.ok acc e' : Mi.R (List Mi.D)) = .ok ds e₂ := hl
          cases hl
          have sb := s1.back (vs := own) (fun i h => by have := hc i h; simpa using this.1) ev s'
          refine g1 H' F' ow' ev sb (.ref D) ?_
          exact ⟨D, vs, rfl, Classical.byContradiction fun z => ev1.dom D z hD, hH', hF', hO', rr⟩
  · exact (show False from g1).elim
theorem snd_comp2 (C : Ctx lev fa xr m c sc W X) {own own2 : List Nat} {tg tg2 : Tg} {i i2 : CI} {elt : CE} {ifs ifs2 : CL} {et ei et2 ei2 ee : Expr} {es es2 : List Expr} {s : Scope} {pos : Pos} (h1 : blkC m.N sc s (ownOk m.N own) = true) (hsub : (own2.all fun i => own.contains i) = true) (ht : tgIn own tg = true) (ht2 : tgIn own2 tg2 = true)
    (h2 : tgC m.N s tg et = true) (h3 : tgC m.N s tg2 et2 = true) (hi : PI X et ei (tI fa X.K xr W i)) (hf : ∀ x, foldedSetIterable ei X.env x = pure x) (hf2 : ∀ env x, foldedSetIterable ei2 env x = pure x)
    (hif : ∀ (X' : Cx), Ctx lev fa xr m c s W0 X' → X'.K = X.K → PTs X' es (tT fa X.K xr W0 (tsC ifs))) (hif2 : ∀ (X' : Cx), Ctx lev fa xr m c s W0 X' → X'.K = X.K → PTs X' es2 (tT fa X.K xr W0 (tsC ifs2)))
    (hi2 : ∀ (X' : Cx), Ctx lev fa xr m c s W0 X' → X'.K = X.K → PI X' et2 ei2 (tI fa X.K xr W0 i2)) (he : ∀ (X' : Cx), Ctx lev fa xr m c s W0 X' → X'.K = X.K → PE X' ee (tE fa X.K xr false W0 elt)) :
    PE X (.ListComp ee [⟨et, ei, es, 0⟩, ⟨et2, ei2, es2, 0⟩] s pos) (tE fa X.K xr true W (xComp2 c own own2 tg tg2 elt i i2 ifs ifs2)) := by
  have hown : (ownOk m.N own).map (·.2) = own := by unfold ownOk; rw [List.map_map]; exact List.map_id _
  have hs : ∀ i ∈ own2, i ∈ own := fun i hi => by have := List.all_eq_true.mp hsub i hi; simpa using this
  have key := pe_lc2 (pos := pos) (vs1 := own2) (g := tgR X.K tg) (g1 := tgR X.K tg2) C.calm (by rw [C.hN]; exact C.nd) hi (C.blkOk h1) (by rw [hown]; exact hs) (fun s' H' a cl fp => pg_tg (C.blk (cl := cl) (a := a) (sh := s') (H := H') (fp := fp)) h2) (fun s' H' a cl fp => hif _ (C.blk (cl := cl) (a := a) (sh := s') (H := H') (fp := fp)) rfl)
    (fun s' H' a cl fp => hi2 _ (C.blk (cl := cl) (a := a) (sh := s') (H := H') (fp := fp)) rfl) (fun s' H' a cl fp => pg_tg (C.blk (cl := cl) (a := a) (sh := s') (H := H') (fp := fp)) h3) (fun s' H' a cl fp => hif2 _ (C.blk (cl := cl) (a := a) (sh := s') (H := H') (fp := fp)) rfl)
    (fun s' H' a cl fp => he _ (C.blk (cl := cl) (a := a) (sh := s') (H := H') (fp := fp)) rfl) hf hf2
  rw [hown] at key
  exact key.imp fun σ H Q h => tlc2_of ht ht2 hs h
abbrev InBlk (X : Cx) (s : Scope) (R : Cx → Prop) : Prop := ∀ (z : Shared) (H : Hp) (a : Addr) (cl : List (Str × Addr)) (fp : List Addr), R (X.blk z H s (compEnvC s cl a X.env) fp)
/-- name = {..} on one line, the name a local -/
theorem ps_setDc {i : Nat} {y : Str} {py pos spos : Pos} {kx vx tx ix : Expr} {fx : List Expr} {s : Scope} {own : List (Str × Nat)} {wi : TI} {g : TG} {tt : TT} {tk tv : TE} (hc : X.calm = true) (nd : X.N.Nodup) (hy : X.N[i]? = some y) (hl : X.env.scope.names.lookup y = some .local)
    (hsw : swapsWith (.DictComp kx vx [⟨tx, ix, fx, 0⟩] s pos) (some (.Name y py)) spos.line X.env = pure true) (hi : PI X tx ix wi) (ok : BlkOk X.N X.env.scope s own)
    (hg : InBlk X s fun Y => PG Y tx g) (ht : InBlk X s fun Y => PTs Y fx tt) (hk : InBlk X s fun Y => PE Y kx tk) (hv : InBlk X s fun Y => PE Y vx tv) (hs : ∀ x, foldedSetIterable ix X.env x = pure x) :
    PS X (.Assign [.Name y py] (.DictComp kx vx [⟨tx, ix, fx, 0⟩] s pos) spos) (tAsg (tDc wi g tt tk tv (own.map (·.2))) (gName i)) := by
  refine ⟨fun pins z σ H D I h => ?_⟩
  rw [exec_Assign_Name_used _ _ _ _ hsw]
  refine wpAny_bind (wpAny_standAt (wpAny_bind ?_))
  show wpAny _ X.A (do let _ ← comprehension (.DictComp kx vx [⟨tx, ix, fx, 0⟩] s pos) s X.env (firstIterPos [⟨tx, ix, fx, 0⟩] pos) newDict false (eval ix X.env) (some (assign (.Name y py) X.env))) _ _ z
  refine wpAny_bind (thn (dc_core (Qf := fun _ z' => SP X pins D .next z') (Q := fun x H1 => gName i x σ H1 D.nx) hc nd I hi ok hg ht hk hv hs h fun L C z1 mm H' I' q hn f => ?_) fun _ z1 hq => wpAny_pure (wpAny_pure hq))
  refine wpAny_assign_Name (store_ok2 (v := V.ref L) I' nd hy (.inl hl) rfl (fun z2 I2 ⟨a, sb, ha⟩ => ?_) (.inr hl))
  obtain ⟨f0, f1, f2, f3, f4, f5⟩ := f
  have hne : C ≠ a := by
    rcases ha with q | q
    · rw [q]; exact f1
    · exact fun e => f4 y a q e.symm
  exact ⟨mm, hn.sameBut sb hne, fun h3 sb3 => ⟨_, H', I2.turned (t' := z2.toks) (fun b o hb e => (sb3.2 b hb).trans e) f0 f1 f3 f4 f5, q⟩⟩
end
end Mi
end
section
/-! every checked expression is sound -/
namespace Mi
open PySem L2 PySem.Spec
section
variable {lev : Nat} {fa : Nat → Option Addr} {xr : XR} {m : Nm} {c : Cfg}
theorem plainCL_of : ∀ {l : Ms}, noStar l = true → plainCL (evEs c l)
  | .nil, _ => fun x hx => by cases hx
  | .cons s a r, h => by
    simp only [noStar, Bool.and_eq_true, Bool.not_eq_true'] at h
    intro x hx
    rcases List.mem_cons.mp (show x ∈ (s, a, evE c a) :: evEs c r from hx) with hx | hx
    · rw [hx]; exact h.1
    · exact plainCL_of h.2 x hx
theorem evEs_len : ∀ {l : Ms}, (evEs c l).length = msLen l
  | .nil => rfl
  | .cons s a r => by
    show ((s, a, evE c a) :: evEs c r).length = msLen r + 1
    rw [List.length_cons, evEs_len]
theorem msLen_eq {sc : Scope} : ∀ {l : Ms} {es : List Expr}, chkEs m sc l es = true → es.length = msLen l
  | .nil, es, h => by
    cases es with
    | nil => rfl
    | cons _ _ => simp [chkEs] at h
  | .cons s a r, es, h => by
    cases es with
    | nil => simp [chkEs] at h
    | cons e es =>
      simp only [chkEs, Bool.and_eq_true] at h
      show es.length + 1 = msLen r + 1
      rw [msLen_eq h.2]
theorem kwNames_len : ∀ {kws : List Keyword} {ks : List Str}, kwNames kws = some ks → (kwVals kws).length = ks.length
  | [], ks, h => by cases h; rfl
  | ⟨some x, e, p⟩ :: r, ks, h => by
    simp only [kwNames] at h
    cases q : kwNames r with
    | none => rw [q] at h; cases h
    | some t =>
      rw [q] at h
      cases h
      show (kwVals r).length + 1 = t.length + 1
      rw [kwNames_len q]
  | ⟨none, e, p⟩ :: r, ks, h => by simp [kwNames] at h
theorem chkEs_cons {sc : Scope} {a : M} {r : Ms} {e : Expr} {es : List Expr} : chkEs m sc (.cons false a r) (e :: es) = (chkE m sc a e && chkEs m sc r es) := by simp only [chkEs, Bool.false_eq_true, if_false]
theorem fresh1_fresh {own : Nat → Bool} : ∀ {a : M}, a.fresh1 own = true → a.fresh own = true
  | .lst _, _ => rfl
  | .comp _ _ _ _ _, _ => rfl
  | .bi b _, h => by cases b <;> first | rfl | (simp [M.fresh1] at h; done)
  | .call f _, h => h
  | .callk f _ _, h => h
  | .px _ _, h => h
  | .dcomp _ _ _ _ _ _, _ => rfl
  | .comp2 _ _ _ _ _ _ _ _ _, _ => rfl
theorem callee_of {e : Expr} {f : Str → Bool} (h : callee e f = true) : ∃ x p, e = .Name x p ∧ f x = true := by
  cases e <;> first | (simp [callee] at h; done) | exact ⟨_, _, rfl, h⟩
theorem px_true {G : GT} {sc : Scope} {o : Px} {e : Expr} {es : List Expr} (h : pxC G sc o e = some es) (env : Env) : ∀ whole, isTrue e env whole = (do let v ← whole; standAt e.pos; holding [v] (truthy v)) := by
  cases e <;> first | (intro w; rfl) | skip
  all_goals exfalso; cases o <;> simp [pxC, bcC] at h
mutual
theorem sndE : ∀ (a : M) {sc : Scope} {W : WX} {X : Cx} (C : Ctx lev fa xr m c sc W X) {e : Expr}, chkE m sc a e = true → Both fa xr W X (a.fresh c.own) (evE c a) e
  | .k d, sc, W, X, C, e, h => by
    cases e <;> first | (simp [chkE] at h; done) | skip
    exact .of (snd_k (by simpa [chkE] using h)) fun _ => rfl
  | .v i, sc, W, X, C, e, h => by
    cases e <;> first | (simp [chkE] at h; done) | skip
    exact .of (snd_v C (by simpa [chkE] using h)) fun _ => rfl
  | .g i, sc, W, X, C, e, h => by
    cases e <;> first | (simp [chkE] at h; done) | skip
    exact .of (snd_g C (by simpa [chkE] using h)) fun _ => rfl
  | .neg a, sc, W, X, C, e, h => by
    cases e <;> first | (simp [chkE] at h; done) | skip
    rename_i op b pos
    cases op <;> first | (simp [chkE] at h; done) | skip
    exact .of (snd_neg (pe_weak (sndE a C (by simpa [chkE] using h)).1)) fun _ => rfl
  | .not a, sc, W, X, C, e, h => by
    cases e <;> first | (simp [chkE] at h; done) | skip
    rename_i op b pos
    cases op <;> first | (simp [chkE] at h; done) | skip
    have ih := sndE a C (by simpa [chkE] using h)
    exact ⟨snd_not (pe_weak ih.1), snt_not ih.2⟩
  | .bop o a b, sc, W, X, C, e, h => by
    cases e <;> first | (simp [chkE] at h; done) | skip
    simp only [chkE, Bool.and_eq_true, decide_eq_true_eq] at h
    obtain ⟨⟨h1, h2⟩, h3⟩ := h
    subst h1
    exact .of (snd_bop (pe_weak (sndE a C h2).1) (pe_weak (sndE b C h3).1)) fun _ => rfl
  | .bool and .nil, sc, W, X, C, e, h => Both.junk
  | .bool and (.cons s a .nil), sc, W, X, C, e, h => by
    cases e <;> first | (simp [chkE, junkOk] at h; done) | skip
    simp only [chkE, Bool.and_eq_true, decide_eq_true_eq] at h
    obtain ⟨⟨h1, h2⟩, h3⟩ := h
    subst h1
    have := sndB (.cons s a .nil) C (and := and) h2 h3 (by simp)
    exact ⟨(this _).1, (this _).2.pt⟩
  | .bool and (.cons s a (.cons s2 b .nil)), sc, W, X, C, e, h => by
    cases e <;> first | (simp [chkE, junkOk] at h; done) | skip
    simp only [chkE, Bool.and_eq_true, decide_eq_true_eq] at h
    obtain ⟨⟨h1, h2⟩, h3⟩ := h
    subst h1
    have := sndB (.cons s a (.cons s2 b .nil)) C (and := and) h2 h3 (by simp)
    cases hf : (a.fresh1 c.own && b.fresh1 c.own) with
    | false =>
      have hf' : M.fresh c.own (M.bool and (Ms.cons s a (.cons s2 b .nil))) = false := hf
      rw [hf']
      exact ⟨(this _).1, (this _).2.pt⟩
    | true =>
      have hf' : M.fresh c.own (M.bool and (Ms.cons s a (.cons s2 b .nil))) = true := hf
      rw [hf']
      refine ⟨?_, (this _).2.pt⟩
      rw [Bool.and_eq_true] at hf
      rename_i vs pos
      match vs, h2 with
      | [], h2 => simp [chkEs] at h2
      | [_], h2 => simp [chkEs] at h2
      | [e1, e2], h2 =>
        simp only [noStar, Bool.and_eq_true, Bool.not_eq_true'] at h3
        obtain ⟨n1, n2, _⟩ := h3
        subst n1 n2
        rw [chkEs_cons, Bool.and_eq_true, chkEs_cons, Bool.and_eq_true] at h2
        have ia := (sndE a C h2.1).1
        have ib := (sndE b C h2.2.1).1
        rw [fresh1_fresh hf.1] at ia
        rw [fresh1_fresh hf.2] at ib
        exact snd_boolN ia (snd_bool1 ib)
      | _ :: _ :: _ :: _, h2 => simp [chkEs] at h2
  | .bool and (.cons s a (.cons s2 b (.cons s3 d t))), sc, W, X, C, e, h => by
    cases e <;> first | (simp [chkE, junkOk] at h; done) | skip
    simp only [chkE, Bool.and_eq_true, decide_eq_true_eq] at h
    obtain ⟨⟨h1, h2⟩, h3⟩ := h
    subst h1
    have := sndB (.cons s a (.cons s2 b (.cons s3 d t))) C (and := and) h2 h3 (by simp)
    exact ⟨(this _).1, (this _).2.pt⟩
  | .cmp a o b, sc, W, X, C, e, h => by
    cases e <;> first | (simp [chkE] at h; done) | skip
    rename_i l ops rs pos
    match ops, rs, h with
    | [p], [r], h =>
      simp only [chkE, Bool.and_eq_true, decide_eq_true_eq] at h
      obtain ⟨⟨h1, h2⟩, h3⟩ := h
      subst h1
      exact ⟨snd_cmp C (pe_weak (sndE a C h2).1) (pe_weak (sndE b C h3).1) (chk_nobehind h3 o), snt_cmp C (pe_weak (sndE a C h2).1) (pe_weak (sndE b C h3).1) (chk_nobehind h3 o)⟩
    | [], _, h => simp [chkE] at h
    | [_], [], h => simp [chkE] at h
    | [_], _ :: _ :: _, h => simp [chkE] at h
    | _ :: _ :: _, _, h => simp [chkE] at h
  | .cmp2 a o b p z, sc, W, X, C, e, h => by
    cases e <;> first | (simp [chkE] at h; done) | skip
    rename_i l ops rs pos
    match ops, rs, h with
    | [o', p'], [r, q], h =>
      simp only [chkE, Bool.and_eq_true, decide_eq_true_eq] at h
      obtain ⟨⟨⟨⟨h1, h2⟩, h3⟩, h4⟩, h5⟩ := h
      subst h1 h2
      exact ⟨snd_cmp2 C (pe_weak (sndE a C h3).1) (pe_weak (sndE b C h4).1) (pe_weak (sndE z C h5).1) (chk_nobehind h5 p), snt_cmp2 C (pe_weak (sndE a C h3).1) (pe_weak (sndE b C h4).1) (pe_weak (sndE z C h5).1) (chk_nobehind h5 p)⟩
    | [], _, h => simp [chkE] at h
    | [_], _, h => simp [chkE] at h
    | [_, _], [], h => simp [chkE] at h
    | [_, _], [_], h => simp [chkE] at h
    | [_, _], _ :: _ :: _ :: _, h => simp [chkE] at h
    | _ :: _ :: _ :: _, _, h => simp [chkE] at h
  | .ite t a b, sc, W, X, C, e, h => by
    cases e <;> first | (simp [chkE] at h; done) | skip
    simp only [chkE, Bool.and_eq_true] at h
    obtain ⟨⟨h1, h2⟩, h3⟩ := h
    have ia := sndE a C h2
    have ib := sndE b C h3
    have it := sndE t C h1
    exact ⟨snd_ite it.2 (pe_weak ia.1) (pe_weak ib.1), snt_ite it.2 ia.2 ib.2⟩
  | .tup es, sc, W, X, C, e, h => by
    cases e <;> first | (simp [chkE] at h; done) | skip
    exact .of (snd_tup (sndEs es C (by simpa [chkE] using h))) fun _ => rfl
  | .lst es, sc, W, X, C, e, h => by
    cases e <;> first | (simp [chkE] at h; done) | skip
    exact .of (snd_lst (sndEs es C (by simpa [chkE] using h))) fun _ => rfl
  | .comp own elt tg it ifs, sc, W, X, C, e, h => by
    cases e <;> first | (simp [chkE] at h; done) | skip
    rename_i b gs s pos
    match gs, h with
    | [⟨et, ei, es, as⟩], h =>
      simp only [chkE, Bool.and_eq_true, decide_eq_true_eq] at h
      obtain ⟨⟨⟨⟨⟨⟨⟨⟨⟨⟨h1, h2⟩, h3⟩, hit⟩, h4⟩, h5⟩, h6⟩, h7⟩, h8⟩, h9⟩, h10⟩ := h
      subst h6
      exact .of (snd_comp C (chkI_nb h5) h1 h2 h3 h4 (sndI it C h5 hit h4) (chkI_folded h5 _) (fun X' C' hK => by rw [← hK]; exact sndT ifs C' h8 h9 h10) (fun X' C' hK => by rw [← hK]; exact pe_weak (sndE elt C' h7).1)) fun _ => rfl
    | [], h => simp [chkE] at h
    | _ :: _ :: _, h => simp [chkE] at h
  | .call f as, sc, W, X, C, e, h => by
    cases e <;> first | (simp [chkE] at h; done) | skip
    rename_i fe es ks pos
    simp only [chkE, Bool.and_eq_true, decide_eq_true_eq, List.isEmpty_iff] at h
    obtain ⟨⟨⟨⟨h1, h2⟩, h3⟩, h4⟩, h5⟩ := h
    subst h2
    obtain ⟨x, p, rfl, h1'⟩ := callee_of h1
    replace h1 := h1'
    exact .of (sndC as C h1 h3 h4 h5) fun _ => rfl
  | .callk f as js, sc, W, X, C, e, h => by
    cases e <;> first | (simp [chkE] at h; done) | skip
    rename_i fe es kws pos
    simp only [chkE, Bool.and_eq_true] at h
    obtain ⟨⟨⟨⟨h1, hby⟩, h2⟩, h3⟩, h4⟩ := h
    obtain ⟨x, p, rfl, h1'⟩ := callee_of h1
    split at h4
    · rename_i ks hks
      obtain ⟨l1, l2, e1, e2, e3, e4, e5, e6, e7, e8⟩ := sndCK as es C h2 h3
      have hne : m.ps f ≠ [] := fun z => by
        rw [z] at h4
        unfold kwOk at h4
        simp only [Bool.and_eq_true, decide_eq_true_eq] at h4
        exact absurd h4.1.1.1.1 (by simp)
      have key := snd_callk (p := p) (pos := pos) C h1' hby e2 e3 (by rw [e4, kwNames_len hks]) e5 e6 e7 hks hne h4 e8
      rw [← e1] at key
      exact .of key fun _ => rfl
    · cases h4
  | .bi b as, sc, W, X, C, e, h => by
    cases e <;> first | (simp [chkE] at h; done) | skip
    rename_i fe es ks pos
    simp only [chkE, Bool.and_eq_true, decide_eq_true_eq, List.isEmpty_iff] at h
    obtain ⟨⟨⟨⟨h1, h2⟩, h3⟩, h4⟩, h5⟩ := h
    subst h2
    obtain ⟨x, p, rfl, h1'⟩ := callee_of h1
    simp only [Bool.and_eq_true, decide_eq_true_eq] at h1'
    replace h1 := h1'
    have hp := sndEs as C h3
    have hs := chkEs_stars X.env h3 h4
    have hl := msLen_eq h3
    have key : PE X (.Call (.Name x p) es [] pos) (tE fa X.K xr (biFr b) W (xBi b (evEs c as))) := by
      cases es with
      | nil => rw [← hl] at h5; exact absurd h5 (by simp)
      | cons e1 es' =>
        have h0 := hs
        have he : starEach (e1 :: es') X.env = (false, eval e1 X.env) :: starEach es' X.env := by
          cases as with
          | nil => simp [chkEs] at h3
          | cons s a r =>
            simp only [noStar, Bool.and_eq_true, Bool.not_eq_true'] at h4
            obtain ⟨n1, n2⟩ := h4
            subst n1
            simp only [chkEs, Bool.false_eq_true, if_false, Bool.and_eq_true] at h3
            exact chk_plain h3.1 _ _
        exact snd_bi C h1.1 h1.2 hp he (star_plain fun y hy => hs y (by rw [he]; exact List.mem_cons_of_mem _ hy)).1
    have hfr : (M.bi b as).fresh c.own = biFr b := by cases b <;> rfl
    rw [hfr]
    exact .of key fun _ => rfl
  | .mt b o as, sc, W, X, C, e, h => by
    cases e <;> first | (simp [chkE] at h; done) | skip
    rename_i fe es ks pos
    cases fe <;> first | (simp [chkE] at h; done) | skip
    rename_i o' name apos
    simp only [chkE, Bool.and_eq_true, decide_eq_true_eq, List.isEmpty_iff] at h
    obtain ⟨⟨⟨⟨⟨⟨⟨⟨h1, h2⟩, h3⟩, h4⟩, h5⟩, h6⟩, h7⟩, h8⟩, h9⟩ := h
    subst h1 h4
    have hp := sndEs as C h5
    have hs := chkEs_stars X.env h5 h6
    have hl := msLen_eq h5
    have key : PE X (.Call (.Attribute o' (mtN b) apos) es [] pos) (tE fa X.K xr false W (xMt b (evE c o) (evEs c as))) := by
      cases es with
      | nil => rw [← hl] at h7; exact absurd h7 (by simp)
      | cons e1 es' =>
        have he : starEach (e1 :: es') X.env = (false, eval e1 X.env) :: starEach es' X.env := by
          cases as with
          | nil => simp [chkEs] at h5
          | cons s a r =>
            simp only [noStar, Bool.and_eq_true, Bool.not_eq_true'] at h6
            obtain ⟨n1, n2⟩ := h6
            subst n1
            simp only [chkEs, Bool.false_eq_true, if_false, Bool.and_eq_true] at h5
            exact chk_plain h5.1 _ _
        refine snd_mt C (pe_weak (sndE o C h3).1) hp (noSuper_base h2 _ _ _) ?_ h9 he (star_plain fun y hy => hs y (by rw [he]; exact List.mem_cons_of_mem _ hy)).1
        rw [(star_plain hs).2]
        have : (e1 :: es').length < 30 := by omega
        simp only [Bool.true_and]
        show ((true : Bool) && decide ((e1 :: es').length + 0 + 0 < 30)) = true
        simpa using this
    exact .of key fun _ => rfl
  | .sub o i, sc, W, X, C, e, h => by
    cases e <;> first | (simp [chkE] at h; done) | skip
    simp only [chkE, Bool.and_eq_true] at h
    exact .of (snd_sub C (pe_weak (sndE o C h.1).1) (pe_weak (sndE i C h.2).1) (chk_plainIx h.2)) fun _ => rfl
  | .sl o lo hi, sc, W, X, C, e, h => by
    cases e <;> first | (simp [chkE] at h; done) | skip
    rename_i o' ix pos
    cases ix <;> first | (simp [chkE] at h; done) | skip
    rename_i l' h' st p2
    cases st with
    | some _ => simp [chkE] at h
    | none =>
      simp only [chkE, Bool.and_eq_true] at h
      exact .of (snd_sl (pe_weak (sndE o C h.1.1).1) (sndO lo C h.1.2) (sndO hi C h.2)) fun _ => rfl
  | .isi o ts, sc, W, X, C, e, h => by
    cases e <;> first | (simp [chkE] at h; done) | skip
    rename_i fe es ks pos
    simp only [chkE, Bool.and_eq_true, List.isEmpty_iff] at h
    obtain ⟨⟨h1, h2⟩, h3⟩ := h
    subst h2
    obtain ⟨x, p, rfl, h1'⟩ := callee_of h1
    simp only [Bool.and_eq_true, decide_eq_true_eq] at h1'
    replace h1 := h1'
    split at h3
    · rename_i o' y q
      simp only [Bool.and_eq_true, decide_eq_true_eq] at h3
      obtain ⟨⟨h3, h4⟩, h5⟩ := h3
      match ts, h4, h5 with
      | [t], _, h5 =>
        simp only [tysC, Bool.and_eq_true, decide_eq_true_eq] at h5
        obtain ⟨⟨⟨h5, h6⟩, h7⟩, _⟩ := h5
        exact .of (snd_isi1 C h1.1 h1.2 h5 h6 h7 (pe_weak (sndE o C h3).1) (chk_plain h3 _ _)) fun _ => rfl
    · rename_i o' vs k q
      simp only [Bool.and_eq_true, decide_eq_true_eq] at h3
      obtain ⟨⟨h3, h4⟩, h6⟩ := h3
      exact .of (snd_isiT C h1.1 h1.2 h4 h6 (pe_weak (sndE o C h3).1) (chk_plain h3 _ _)) fun _ => rfl
    · cases h3
  | .bsub i a, sc, W, X, C, e, h => by
    cases e <;> first | (simp [chkE] at h; done) | skip
    rename_i o ix pos
    cases o <;> first | (simp [chkE] at h; done) | skip
    simp only [chkE, Bool.and_eq_true] at h
    exact .of (snd_bsub C h.1 (pe_weak (sndE a C h.2).1) (chk_plainIx h.2)) fun _ => rfl
  | .blen i, sc, W, X, C, e, h => by
    cases e <;> first | (simp [chkE] at h; done) | skip
    rename_i fe es ks pos
    unfold chkE at h
    split at h
    · rename_i heq
      cases heq
      simp only [Bool.and_eq_true, List.isEmpty_iff] at h
      obtain ⟨⟨h1, h2⟩, h3⟩ := h
      subst h2
      obtain ⟨x, p, rfl, h1'⟩ := callee_of h1
      simp only [Bool.and_eq_true, decide_eq_true_eq] at h1'
      replace h1 := h1'
      exact .of (snd_blen C h3 h1.1 h1.2) fun _ => rfl
    · cases h
  | .bin n a i, sc, W, X, C, e, h => by
    cases e <;> first | (simp [chkE] at h; done) | skip
    unfold chkE at h
    split at h
    · rename_i heq
      cases heq
      simp only [Bool.and_eq_true, decide_eq_true_eq] at h
      obtain ⟨⟨h1, h2⟩, h3⟩ := h
      subst h1
      exact ⟨snd_bin C h3 (pe_weak (sndE a C h2).1), snt_bin C h3 (pe_weak (sndE a C h2).1)⟩
    · cases h
  | .bcmp i o a, sc, W, X, C, e, h => by
    cases e <;> first | (simp [chkE] at h; done) | skip
    unfold chkE at h
    split at h
    · rename_i heq
      cases heq
      simp only [Bool.and_eq_true, decide_eq_true_eq] at h
      obtain ⟨⟨h1, h2⟩, h3⟩ := h
      subst h1
      exact snd_bcmp C h2 (pe_weak (sndE a C h3).1) (chk_nobehind h3 _)
    · cases h
  | .pop i .nil, sc, W, X, C, e, h => by
    cases e <;> first | (simp [chkE] at h; done) | skip
    rename_i fe es ks pos
    cases fe <;> first | (simp [chkE] at h; done) | skip
    rename_i o name apos
    cases o <;> first | (simp [chkE] at h; done) | skip
    rename_i x p
    simp only [chkE, Bool.and_eq_true, decide_eq_true_eq, List.isEmpty_iff] at h
    obtain ⟨⟨⟨⟨⟨⟨h1, h2⟩, h3⟩, h4⟩, h5⟩, h6⟩, h7⟩ := h
    subst h1 h3
    cases es with
    | nil => exact .of (snd_pop0 C h2 h7) fun _ => rfl
    | cons _ _ => simp [chkEs] at h4
  | .pop i (.cons s a .nil), sc, W, X, C, e, h => by
    cases e <;> first | (simp [chkE] at h; done) | skip
    rename_i fe es ks pos
    cases fe <;> first | (simp [chkE] at h; done) | skip
    rename_i o name apos
    cases o <;> first | (simp [chkE] at h; done) | skip
    rename_i x p
    unfold chkE at h
    simp only [Bool.and_eq_true, decide_eq_true_eq, List.isEmpty_iff] at h
    obtain ⟨⟨⟨⟨⟨⟨h1, h2⟩, h3⟩, h4⟩, h5⟩, h6⟩, h7⟩ := h
    subst h1 h3
    simp only [noStar, Bool.and_eq_true, Bool.not_eq_true'] at h5
    obtain ⟨n1, n2⟩ := h5
    subst n1
    match es, h4 with
    | [], h4 => simp [chkEs] at h4
    | [e], h4 =>
      rw [chkEs_cons, Bool.and_eq_true] at h4
      have hs := chk_plain h4.1 X.env []
      refine .of (snd_pop1 C h2 (pe_weak (sndE a C h4.1).1) h7 hs ?_) fun _ => rfl
      rw [hs]
      rfl
    | _ :: _ :: _, h4 => simp [chkEs] at h4
  | .pop i (.cons _ _ (.cons _ _ _)), sc, W, X, C, e, h => by
    cases e <;> first | (simp [chkE] at h; done) | skip
    rename_i fe es ks pos
    cases fe <;> first | (simp [chkE] at h; done) | skip
    rename_i o name apos
    cases o <;> first | (simp [chkE] at h; done) | skip
    simp [chkE, msLen] at h
  | .px o .nil, sc, W, X, C, e, h => by
    unfold chkE at h
    cases hp : pxC m.G sc o e with
    | none => rw [hp] at h; cases h
    | some es =>
      rw [hp] at h
      cases es with
      | nil => exact .of (snd_px0 hp) (px_true hp _)
      | cons _ _ => simp [chkEs] at h
  | .px o (.cons s a .nil), sc, W, X, C, e, h => by
    unfold chkE at h
    cases hp : pxC m.G sc o e with
    | none => rw [hp] at h; cases h
    | some es =>
      rw [hp] at h
      simp only [Bool.and_eq_true, noStar, Bool.not_eq_true'] at h
      obtain ⟨h1, n1, n2⟩ := h
      subst n1
      match es, h1, hp with
      | [], h1, hp => simp [chkEs] at h1
      | [e1], h1, hp =>
        rw [chkEs_cons, Bool.and_eq_true] at h1
        exact .of (snd_px1 C hp h1.1 (pe_weak (sndE a C h1.1).1)) (px_true hp _)
      | _ :: _ :: _, h1, hp => simp [chkEs] at h1
  | .px o (.cons s a (.cons s2 b .nil)), sc, W, X, C, e, h => by
    unfold chkE at h
    cases hp : pxC m.G sc o e with
    | none => rw [hp] at h; cases h
    | some es =>
      rw [hp] at h
      simp only [Bool.and_eq_true, noStar, Bool.not_eq_true'] at h
      obtain ⟨h1, n1, n2, n3⟩ := h
      subst n1 n2
      match es, h1, hp with
      | [], h1, hp => simp [chkEs] at h1
      | [_], h1, hp => simp [chkEs] at h1
      | [e1, e2], h1, hp =>
        rw [chkEs_cons, Bool.and_eq_true, chkEs_cons, Bool.and_eq_true] at h1
        exact .of (snd_px2 C hp h1.1 h1.2.1 (pe_weak (sndE a C h1.1).1) (pe_weak (sndE b C h1.2.1).1)) (px_true hp _)
      | _ :: _ :: _ :: _, h1, hp => simp [chkEs] at h1
  | .px o (.cons _ _ (.cons _ _ (.cons _ _ _))), sc, W, X, C, e, h => by
    exfalso
    unfold chkE at h
    cases hp : pxC m.G sc o e with
    | none => rw [hp] at h; cases h
    | some es =>
      rw [hp] at h
      simp only [Bool.and_eq_true] at h
      have h1 := msLen_eq h.1
      have h2 := pxC3 hp
      simp only [msLen] at h1
      omega
  | .attr o x, sc, W, X, C, e, h => by
    cases e <;> first | (simp [chkE] at h; done) | skip
    simp only [chkE, Bool.and_eq_true, decide_eq_true_eq] at h
    obtain ⟨⟨h1, h2⟩, h3⟩ := h
    subst h1
    exact .of (snd_attr C h2 (pe_weak (sndE o C h3).1)) fun _ => rfl
  | .meth o x as, sc, W, X, C, e, h => by
    cases e <;> first | (simp [chkE] at h; done) | skip
    rename_i fe es ks pos
    cases fe <;> first | (simp [chkE] at h; done) | skip
    rename_i o' name apos
    simp only [chkE, Bool.and_eq_true, decide_eq_true_eq, List.isEmpty_iff] at h
    obtain ⟨⟨⟨⟨⟨⟨⟨h1, h2⟩, h3⟩, h4⟩, h5⟩, h6⟩, h8⟩, h9⟩ := h
    subst h1 h4
    have hp := sndEs as C h5
    have hs := chkEs_stars X.env h5 h6
    have hl := msLen_eq h5
    refine .of (snd_meth C h2 (pe_weak (sndE o C h3).1) hp (plainCL_of h6) (evEs_len.trans hl.symm) ?_ h9 ?_) fun _ => rfl
    · unfold methodCallForm
      rw [(star_plain hs).2]
      have : es.length < 30 := by omega
      simp only [Bool.true_and]
      show ((true : Bool) && decide (es.length + 0 + 0 < 30)) = true
      simpa using this
    · cases es with
      | nil => exact .inl rfl
      | cons e1 es' =>
        have he : starEach (e1 :: es') X.env = (false, eval e1 X.env) :: starEach es' X.env := by
          cases as with
          | nil => simp [chkEs] at h5
          | cons s a r =>
            simp only [noStar, Bool.and_eq_true, Bool.not_eq_true'] at h6
            obtain ⟨n1, n2⟩ := h6
            subst n1
            simp only [chkEs, Bool.false_eq_true, if_false, Bool.and_eq_true] at h5
            exact chk_plain h5.1 _ _
        exact .inr ⟨e1, es', rfl, he, (star_plain fun y hy => hs y (by rw [he]; exact List.mem_cons_of_mem _ hy)).1⟩
  | .olen o, sc, W, X, C, e, h => by
    cases e <;> first | (simp [chkE] at h; done) | skip
    rename_i fe es ks pos
    simp only [chkE, Bool.and_eq_true, List.isEmpty_iff] at h
    obtain ⟨⟨h1, h2⟩, h3⟩ := h
    subst h2
    obtain ⟨x, p, rfl, h1'⟩ := callee_of h1
    simp only [Bool.and_eq_true, decide_eq_true_eq] at h1'
    match es, h3 with
    | [], h3 => cases h3
    | [a], h3 => exact .of (snd_olen C h1'.1 h1'.2 (pe_weak (sndE o C h3).1) (chk_plain h3 _ _)) fun _ => rfl
    | _ :: _ :: _, h3 => cases h3
  | .oin n a o, sc, W, X, C, e, h => by
    cases e <;> first | (simp [chkE] at h; done) | skip
    rename_i l ops rs pos
    match ops, rs, h with
    | [p], [r], h =>
      simp only [chkE, Bool.and_eq_true, decide_eq_true_eq] at h
      obtain ⟨⟨h1, h2⟩, h3⟩ := h
      subst h1
      exact snd_oin C (pe_weak (sndE a C h2).1) (pe_weak (sndE o C h3).1) (chk_nobehind h3 _)
    | [], _, h => simp [chkE] at h
    | _ :: _ :: _, _, h => simp [chkE] at h
    | [_], [], h => simp [chkE] at h
    | [_], _ :: _ :: _, h => simp [chkE] at h
  | .dcomp own k v tg it ifs, sc, W, X, C, e, h => by
    cases e <;> first | (simp [chkE] at h; done) | skip
    rename_i kx vx gs s pos
    match gs, h with
    | [⟨et, ei, es, as⟩], h =>
      simp only [chkE, Bool.and_eq_true, decide_eq_true_eq] at h
      obtain ⟨⟨⟨⟨⟨⟨⟨⟨⟨⟨⟨h1, h2⟩, h3⟩, hit⟩, h4⟩, h5⟩, h6⟩, h7⟩, h7'⟩, h8⟩, h9⟩, h10⟩ := h
      subst h6
      exact .of (snd_dcomp (it := it) C h1 h3 h4 (sndI it C h5 hit h4) (chkI_folded h5 _) (fun X' C' hK => by rw [← hK]; exact sndT ifs C' h8 h9 h10) (fun X' C' hK => by rw [← hK]; exact pe_weak (sndE k C' h7).1) (fun X' C' hK => by rw [← hK]; exact pe_weak (sndE v C' h7').1)) fun _ => rfl
    | [], h => simp [chkE] at h
    | _ :: _ :: _, h => simp [chkE] at h
  | .comp2 own own2 elt tg it ifs tg2 it2 ifs2, sc, W, X, C, e, h => by
    cases e <;> first | (simp [chkE] at h; done) | skip
    rename_i b gs s pos
    match gs, h with
    | [⟨et, ei, es, as⟩, ⟨et2, ei2, es2, as2⟩], h =>
      simp only [chkE, Bool.and_eq_true, decide_eq_true_eq] at h
      obtain ⟨⟨⟨⟨⟨⟨⟨⟨⟨⟨⟨⟨⟨⟨⟨⟨⟨⟨⟨h1, h2⟩, h3⟩, h4⟩, h5⟩, h6⟩, h7⟩, h8⟩, h9⟩, h10⟩, h11⟩, h12⟩, h13⟩, h14⟩, h15⟩, h16⟩, h17⟩, h18⟩, h19⟩, h20⟩ := h
      subst h12 h13
      exact .of (snd_comp2 C h1 h3 h4 h5 h8 h9 (sndI it C h10 h6 h8) (chkI_folded h10 _) (fun env => chkI_folded h11 env) (fun X' C' hK => by rw [← hK]; exact sndT ifs C' h15 h17 h19) (fun X' C' hK => by rw [← hK]; exact sndT ifs2 C' h16 h18 h20) (fun X' C' hK => by rw [← hK]; exact sndI it2 C' h11 h7 h9) (fun X' C' hK => by rw [← hK]; exact pe_weak (sndE elt C' h14).1)) fun _ => rfl
    | [], h => simp [chkE] at h
    | [_], h => simp [chkE] at h
    | _ :: _ :: _ :: _, h => simp [chkE] at h
theorem sndEs : ∀ (l : Ms) {sc : Scope} {W : WX} {X : Cx} (C : Ctx lev fa xr m c sc W X) {es : List Expr}, chkEs m sc l es = true → PA X es (tA fa X.K xr W (esC (evEs c l)))
  | .nil, sc, W, X, C, es, h => by
    cases es with
    | nil => exact snd_nil
    | cons _ _ => simp [chkEs] at h
  | .cons s a r, sc, W, X, C, es, h => by
    cases es with
    | nil => simp [chkEs] at h
    | cons e es =>
      simp only [chkEs, Bool.and_eq_true] at h
      cases s with
      | false =>
        simp only [Bool.false_eq_true, if_false] at h
        exact snd_cons (pe_weak (sndE a C h.1).1) (sndEs r C h.2) (chk_plain h.1 _ _)
      | true =>
        simp only [if_true] at h
        obtain ⟨h1, h2⟩ := h
        cases e <;> first | (cases h1; done) | skip
        exact snd_star (pe_weak (sndE a C h1).1) (sndEs r C h2)
theorem sndB : ∀ (l : Ms) {sc : Scope} {W : WX} {X : Cx} (C : Ctx lev fa xr m c sc W X) {and : Bool} {es : List Expr}, chkEs m sc l es = true → noStar l = true → l ≠ .nil →
    ∀ pos, PE X (.BoolOp (if and then .And else .Or) es pos) (tE fa X.K xr false W (xBool and (evEs c l))) ∧ PW X (.BoolOp (if and then .And else .Or) es pos) (tT fa X.K xr W (tru' (xBool and (evEs c l))))
  | .nil, sc, W, X, C, and, es, h, _, hn => absurd rfl hn
  | .cons s a .nil, sc, W, X, C, and, es, h, n, _ => by
    intro pos
    match es, h with
    | [], h => simp [chkEs] at h
    | [e], h =>
      simp only [noStar, Bool.and_eq_true, Bool.not_eq_true'] at n
      obtain ⟨n1, n2⟩ := n
      subst n1
      simp only [chkEs, Bool.false_eq_true, if_false, Bool.and_eq_true] at h
      have ih := sndE a C h.1
      exact ⟨snd_bool1 (pe_weak ih.1), snt_bool1 ih.2⟩
    | _ :: _ :: _, h => simp [chkEs] at h
  | .cons s a (.cons s2 b r), sc, W, X, C, and, es, h, n, _ => by
    intro pos
    match es, h with
    | [], h => simp [chkEs] at h
    | [_], h => simp [chkEs] at h
    | e :: e2 :: es, h =>
      have n' := n
      simp only [noStar, Bool.and_eq_true, Bool.not_eq_true'] at n
      obtain ⟨n1, n2⟩ := n
      subst n1
      rw [chkEs_cons, Bool.and_eq_true] at h
      have ih := sndE a C h.1
      have ir := sndB (.cons s2 b r) C (and := and) h.2 (by simp [noStar, n2]) (by simp) pos
      exact ⟨snd_boolN (pe_weak ih.1) ir.1, snt_boolN ih.2 ir.2⟩
theorem sndT : ∀ (l : Ms) {sc : Scope} {X : Cx} (C : Ctx lev fa xr m c sc W0 X) {es : List Expr}, chkEs m sc l es = true → noStar l = true → msLen l ≤ 1 → PTs X es (tT fa X.K xr W0 (tsC (evEs c l)))
  | .nil, sc, X, C, es, h, _, _ => by
    cases es with
    | nil => exact pts_of (.inl ⟨rfl, rfl⟩)
    | cons _ _ => simp [chkEs] at h
  | .cons s a .nil, sc, X, C, es, h, n, _ => by
    match es, h with
    | [], h => simp [chkEs] at h
    | [e], h =>
      simp only [noStar, Bool.and_eq_true, Bool.not_eq_true'] at n
      obtain ⟨n1, n2⟩ := n
      subst n1
      simp only [chkEs, Bool.false_eq_true, if_false, Bool.and_eq_true] at h
      exact pts_of (.inr ⟨e, a, evE c a, rfl, rfl, (sndE a C h.1).2⟩)
    | _ :: _ :: _, h => simp [chkEs] at h
  | .cons s a (.cons _ _ _), sc, X, C, es, h, n, hl => by simp [msLen] at hl
theorem sndC : ∀ (l : Ms) {sc : Scope} {W : WX} {X : Cx} (C : Ctx lev fa xr m c sc W X) {f : Nat} {x : Str} {p pos : Pos} {es : List Expr}, isFn m sc f x = true → chkEs m sc l es = true → noStar l = true → msLen l = m.np f →
    PE X (.Call (.Name x p) es [] pos) (tE fa X.K xr (c.own f) W (xCall c f (evEs c l)))
  | .nil, sc, W, X, C, f, x, p, pos, es, hg, h, _, hl => by
    cases es with
    | nil => exact snd_call0 C hg hl.symm
    | cons _ _ => simp [chkEs] at h
  | .cons s a r, sc, W, X, C, f, x, p, pos, es, hg, h, n, hl => by
    cases es with
    | nil => simp [chkEs] at h
    | cons e1 es =>
      simp only [noStar, Bool.and_eq_true, Bool.not_eq_true'] at n
      obtain ⟨n1, n2⟩ := n
      subst n1
      simp only [chkEs, Bool.false_eq_true, if_false, Bool.and_eq_true] at h
      refine snd_call (l := evEs c r) C hg (by rw [evEs_len]; exact hl) (plainCL_of n2) (sndE a C h.1).1 (fun i hi => ?_) (sndEs r C h.2) (chk_plain h.1 _ _) (star_plain (chkEs_stars X.env h.2 n2)).1
      subst hi
      have h1 := h.1
      cases e1 <;> first | (simp [chkE] at h1; done) | skip
      exact C.name (by simpa [chkE] using h1)
theorem sndK : ∀ (as : Ms) {sc : Scope} {W : WX} {X : Cx} (C : Ctx lev fa xr m c sc W X) {kws : List Keyword}, chkEs m sc as (kwVals kws) = true → noStar as = true → PK X kws (tA fa X.K xr W (esC (evEs c as)))
  | .nil, sc, W, X, C, kws, h, _ => by
    cases kws with
    | nil => exact snk_nil
    | cons k _ => obtain ⟨_, _, _⟩ := k; simp [chkEs, kwVals] at h
  | .cons s a r, sc, W, X, C, kws, h, n => by
    cases kws with
    | nil => simp [chkEs, kwVals] at h
    | cons k kws =>
      obtain ⟨nm, ex, kp⟩ := k
      simp only [noStar, Bool.and_eq_true, Bool.not_eq_true'] at n
      obtain ⟨n1, n2⟩ := n
      subst n1
      simp only [chkEs, kwVals, Bool.false_eq_true, if_false, Bool.and_eq_true] at h
      exact snk_cons (pe_weak (sndE a C h.1).1) (sndK r C h.2 n2)
theorem sndCK : ∀ (as : Ms) (es : List Expr) {sc : Scope} {W : WX} {X : Cx} (C : Ctx lev fa xr m c sc W X) {kws : List Keyword} {pos : Pos}, chkEs m sc as (es ++ kwVals kws) = true → noStar as = true →
    ∃ l1 l2 : CL, evEs c as = l1 ++ l2 ∧ l1.length = es.length ∧ plainCL l1 ∧ l2.length = (kwVals kws).length ∧ plainCL l2 ∧ PA X es (tA fa X.K xr W (esC l1)) ∧ PK X kws (tA fa X.K xr W (esC l2)) ∧
      (es = [] ∨ ∃ e1 r, es = e1 :: r ∧ starEach (e1 :: r) X.env = (false, eval e1 X.env) :: starEach r X.env ∧ (backTo pos (starEach r X.env)).any (·.1) = false)
  | as, [], sc, W, X, C, kws, pos, h, n => ⟨[], evEs c as, rfl, rfl, (fun _ h => nomatch h), by rw [evEs_len, ← msLen_eq h]; rfl, plainCL_of n, snd_nil, sndK as C h n, .inl rfl⟩
  | .nil, e :: es, sc, W, X, C, kws, pos, h, n => by simp [chkEs] at h
  | .cons s a r, e :: es, sc, W, X, C, kws, pos, h, n => by
    simp only [noStar, Bool.and_eq_true, Bool.not_eq_true'] at n
    obtain ⟨n1, n2⟩ := n
    subst n1
    rw [List.cons_append, chkEs_cons, Bool.and_eq_true] at h
    obtain ⟨l1, l2, e1, e2, e3, e4, e5, e6, e7, e8⟩ := sndCK r es C (pos := pos) h.2 n2
    have hs := chk_plain h.1 X.env es
    refine ⟨(false, a, evE c a) :: l1, l2, by show (false, a, evE c a) :: evEs c r = _; rw [e1]; rfl, by simp [e2], fun x hx => ?_, e4, e5, snd_cons (pe_weak (sndE a C h.1).1) e6 hs, e7, .inr ⟨e, es, rfl, hs, ?_⟩⟩
    · rcases List.mem_cons.mp hx with hx | hx
      · rw [hx]
      · exact e3 x hx
    · rcases e8 with rfl | ⟨f, t, rfl, h1, h2⟩
      · rfl
      · rw [h1]
        show (false || (backTo pos (starEach t X.env)).any (·.1)) = false
        rw [h2]; rfl
theorem sndO : ∀ (l : Ms) {sc : Scope} {W : WX} {X : Cx} (C : Ctx lev fa xr m c sc W X) {o : Option Expr}, chkO m sc l o = true → PO X o (tO fa X.K xr W (partsE (evEs c l)))
  | .nil, sc, W, X, C, o, h => by
    cases o with
    | none => exact snd_part0
    | some _ => simp [chkO] at h
  | .cons s a .nil, sc, W, X, C, o, h => by
    cases o with
    | none => simp [chkO] at h
    | some e =>
      simp only [chkO, Bool.and_eq_true, Bool.not_eq_true'] at h
      exact snd_part1 (pe_weak (sndE a C h.1.2).1) h.1.1
  | .cons s a (.cons _ _ _), sc, W, X, C, o, h => by
    cases o <;> simp [chkO, msLen] at h
theorem sndI : ∀ (it : It) {sc s : Scope} {W : WX} {X : Cx} (C : Ctx lev fa xr m c sc W X) {tg : Tg} {e et : Expr}, chkI m sc it e = true → itTup it tg = true → tgC m.N s tg et = true → PI X et e (tI fa X.K xr W (evI c it))
  | .e a, sc, s, W, X, C, tg, e, et, h, _, _ => sni_e (pe_weak (sndE a C (by simpa [chkI] using h)).1)
  | .b i, sc, s, W, X, C, tg, e, et, h, _, _ => by simp [chkI] at h
  | .rng as, sc, s, W, X, C, tg, e, et, h, _, _ => sndR as C h
  | .enum a, sc, s, W, X, C, tg, e, et, h, h4, ht => by
    cases e <;> first | (simp [chkI] at h; done) | skip
    rename_i fe es ks pos
    match es, h with
    | [b], h =>
      simp only [chkI, Bool.and_eq_true, decide_eq_true_eq, List.isEmpty_iff] at h
      obtain ⟨⟨h1, h2⟩, h3⟩ := h
      subst h2
      obtain ⟨x, p, rfl, h1'⟩ := callee_of h1
      simp only [Bool.and_eq_true, decide_eq_true_eq] at h1'
      obtain ⟨q1, q2⟩ := h1'
      subst q1
      cases tg with
      | n i => simp [itTup, tgTup] at h4
      | t is =>
        cases et <;> first | (simp [tgC] at ht; done) | skip
        exact sni_enum C q2 (pe_weak (sndE a C h3).1) fun es => chk_plain h3 _ _
    | [], h => simp [chkI] at h
    | _ :: _ :: _, h => simp [chkI] at h
  | .zip as, sc, s, W, X, C, tg, e, et, h, h4, ht => sndZ as C h h4 ht
theorem sndR : ∀ (as : Ms) {sc : Scope} {W : WX} {X : Cx} (C : Ctx lev fa xr m c sc W X) {e et : Expr}, chkI m sc (.rng as) e = true → PI X et e (tI fa X.K xr W (iRng (evEs c as)))
  | .nil, sc, W, X, C, e, et, h => by
    cases e <;> first | (simp [chkI] at h; done) | skip
    simp [chkI, msLen] at h
  | .cons s a .nil, sc, W, X, C, e, et, h => by
    cases e <;> first | (simp [chkI] at h; done) | skip
    rename_i fe es ks pos
    simp only [chkI, Bool.and_eq_true, decide_eq_true_eq, List.isEmpty_iff] at h
    obtain ⟨⟨⟨⟨h1, h2⟩, h3⟩, h4⟩, h5⟩ := h
    subst h2
    obtain ⟨x, p, rfl, h1'⟩ := callee_of h1
    simp only [Bool.and_eq_true, decide_eq_true_eq] at h1'
    obtain ⟨q1, q2⟩ := h1'
    subst q1
    simp only [noStar, Bool.and_eq_true, Bool.not_eq_true'] at h4
    obtain ⟨n1, n2⟩ := h4
    subst n1
    match es, h3 with
    | [], h3 => simp [chkEs] at h3
    | [e1], h3 =>
      rw [chkEs_cons, Bool.and_eq_true] at h3
      exact sni_rng1 C q2 (pe_weak (sndE a C h3.1).1) fun es => chk_plain h3.1 _ _
    | _ :: _ :: _, h3 => simp [chkEs] at h3
  | .cons s a (.cons s2 b .nil), sc, W, X, C, e, et, h => by
    cases e <;> first | (simp [chkI] at h; done) | skip
    rename_i fe es ks pos
    unfold chkI at h
    simp only [Bool.and_eq_true, decide_eq_true_eq, List.isEmpty_iff] at h
    obtain ⟨⟨⟨⟨h1, h2⟩, h3⟩, h4⟩, h5⟩ := h
    subst h2
    obtain ⟨x, p, rfl, h1'⟩ := callee_of h1
    simp only [Bool.and_eq_true, decide_eq_true_eq] at h1'
    obtain ⟨q1, q2⟩ := h1'
    subst q1
    simp only [noStar, Bool.and_eq_true, Bool.not_eq_true'] at h4
    obtain ⟨n1, n2, n3⟩ := h4
    subst n1 n2
    match es, h3 with
    | [], h3 => simp [chkEs] at h3
    | [_], h3 => simp [chkEs] at h3
    | [e1, e2], h3 =>
      rw [chkEs_cons, Bool.and_eq_true, chkEs_cons, Bool.and_eq_true] at h3
      exact sni_rng2 C q2 (pe_weak (sndE a C h3.1).1) (pe_weak (sndE b C h3.2.1).1) (fun es => chk_plain h3.1 _ _) fun es => chk_plain h3.2.1 _ _
    | _ :: _ :: _ :: _, h3 => simp [chkEs] at h3
  | .cons _ _ (.cons _ _ (.cons _ _ _)), sc, W, X, C, e, et, h => by
    cases e <;> first | (simp [chkI] at h; done) | skip
    simp [chkI, msLen] at h
theorem sndZ : ∀ (as : Ms) {sc s : Scope} {W : WX} {X : Cx} (C : Ctx lev fa xr m c sc W X) {tg : Tg} {e et : Expr}, chkI m sc (.zip as) e = true → tgTup tg = true → tgC m.N s tg et = true → PI X et e (tI fa X.K xr W (iZip (evEs c as)))
  | .nil, sc, s, W, X, C, tg, e, et, h, _, _ => by
    cases e <;> first | (simp [chkI] at h; done) | skip
    simp [chkI, msLen] at h
  | .cons _ _ .nil, sc, s, W, X, C, tg, e, et, h, _, _ => by
    cases e <;> first | (simp [chkI] at h; done) | skip
    simp [chkI, msLen] at h
  | .cons s1 a (.cons s2 b .nil), sc, s, W, X, C, tg, e, et, h, h6, ht => by
    cases tg with
    | n i => simp [tgTup] at h6
    | t is =>
      cases et <;> first | (simp [tgC] at ht; done) | skip
      cases e <;> first | (simp [chkI] at h; done) | skip
      rename_i fe es ks pos
      unfold chkI at h
      simp only [Bool.and_eq_true, decide_eq_true_eq, List.isEmpty_iff] at h
      obtain ⟨⟨⟨⟨h1, h2⟩, h3⟩, h4⟩, h5⟩ := h
      subst h2
      obtain ⟨x, p, rfl, h1'⟩ := callee_of h1
      simp only [Bool.and_eq_true, decide_eq_true_eq] at h1'
      obtain ⟨q1, q2⟩ := h1'
      subst q1
      simp only [noStar, Bool.and_eq_true, Bool.not_eq_true'] at h4
      obtain ⟨n1, n2, n3⟩ := h4
      subst n1 n2
      match es, h3 with
      | [], h3 => simp [chkEs] at h3
      | [_], h3 => simp [chkEs] at h3
      | [e1, e2], h3 =>
        rw [chkEs_cons, Bool.and_eq_true, chkEs_cons, Bool.and_eq_true] at h3
        exact sni_zip2 C q2 (pe_weak (sndE a C h3.1).1) (pe_weak (sndE b C h3.2.1).1) (fun es => chk_plain h3.1 _ _) fun es => chk_plain h3.2.1 _ _
      | _ :: _ :: _ :: _, h3 => simp [chkEs] at h3
  | .cons s1 a (.cons s2 b (.cons s3 d .nil)), sc, s, W, X, C, tg, e, et, h, h6, ht => by
    cases tg with
    | n i => simp [tgTup] at h6
    | t is =>
      cases et <;> first | (simp [tgC] at ht; done) | skip
      cases e <;> first | (simp [chkI] at h; done) | skip
      rename_i fe es ks pos
      unfold chkI at h
      simp only [Bool.and_eq_true, decide_eq_true_eq, List.isEmpty_iff] at h
      obtain ⟨⟨⟨⟨h1, h2⟩, h3⟩, h4⟩, h5⟩ := h
      subst h2
      obtain ⟨x, p, rfl, h1'⟩ := callee_of h1
      simp only [Bool.and_eq_true, decide_eq_true_eq] at h1'
      obtain ⟨q1, q2⟩ := h1'
      subst q1
      simp only [noStar, Bool.and_eq_true, Bool.not_eq_true'] at h4
      obtain ⟨n1, n2, n3, n4⟩ := h4
      subst n1 n2 n3
      match es, h3 with
      | [], h3 => simp [chkEs] at h3
      | [_], h3 => simp [chkEs] at h3
      | [_, _], h3 => simp [chkEs] at h3
      | [e1, e2, e3], h3 =>
        rw [chkEs_cons, Bool.and_eq_true, chkEs_cons, Bool.and_eq_true, chkEs_cons, Bool.and_eq_true] at h3
        exact sni_zip3 C q2 (pe_weak (sndE a C h3.1).1) (pe_weak (sndE b C h3.2.1).1) (pe_weak (sndE d C h3.2.2.1).1) (fun es => chk_plain h3.1 _ _) (fun es => chk_plain h3.2.1 _ _) fun es => chk_plain h3.2.2.1 _ _
      | _ :: _ :: _ :: _ :: _, h3 => simp [chkEs] at h3
  | .cons _ _ (.cons _ _ (.cons _ _ (.cons _ _ _))), sc, s, W, X, C, tg, e, et, h, _, _ => by
    cases e <;> first | (simp [chkI] at h; done) | skip
    simp [chkI, msLen] at h
end
end
end Mi
end
section
/-! statements: readings; tests, loops, blocks -/
namespace Mi
open PySem L2 PySem.Spec
/-- what the end of a statement must bring; H₀: the heap where the def began, mine: its list is its caller's -/
def GoodS (fa : Nat → Option Addr) (K : PySem.W.Frag) (xr : XR) (mine : Bool) (H₀ : Hp) (fx : St → Prop) (W : WX) (D : Ends) (H F : Hp) (ow : Ow) : Fl → Prop
  | .nx e => ∀ σ' H' F' ow', Evo H F ow H' F' ow' → fx σ' → Gst fa K H' F' ow' e σ' → D.nx σ' H'
  | .bk e => ∀ σ' H' F' ow', Evo H F ow H' F' ow' → fx σ' → Gst fa K H' F' ow' e σ' → D.bk σ' H'
  | .ct e => ∀ σ' H' F' ow', Evo H F ow H' F' ow' → fx σ' → Gst fa K H' F' ow' e σ' → D.ct σ' H'
  | .rt d e => ∀ v σ' H' F' ow', Evo H F ow H' F' ow' → fx σ' → Gst fa K H' F' ow' e σ' → Vd fa K mine H₀ H' F' ow' d v → D.rt v H'
  | .ex x e => ∀ cls dd σ' H' F' ow', Evo H F ow H' F' ow' → fx σ' → Gst fa K H' F' ow' e σ' → xr x cls dd H' F' → W cls dd σ' H'
  | .no => False
/-- the heap has grown since the def began, and the slots that were lent are as they were -/
def Hd (H₀ : Hp) (fx : St → Prop) (H : Hp) (σ : St) : Prop := (∀ a, H₀ a ≠ none → H a ≠ none) ∧ fx σ
def tS (fa : Nat → Option Addr) (K : PySem.W.Frag) (xr : XR) (mine : Bool) (H₀ : Hp) (fx : St → Prop) (W : WX) (cs : En → Fl) : TS := fun D σ H => ∃ F ow e, Hd H₀ fx H σ ∧ Gst fa K H F ow e σ ∧ GoodS fa K xr mine H₀ fx W D H F ow (cs e)
section
variable {lev : Nat} {fa : Nat → Option Addr} {K : PySem.W.Frag} {xr : XR} {mine : Bool} {H₀ : Hp} {fx : St → Prop} {m : Nm} {c : Cfg} {sc : Scope} {W : WX} {X : Cx} {D D' : Ends} {H F H1 F1 : Hp} {ow ow1 : Ow} {e : En} {σ : St}
theorem GoodS.shift {r : Fl} (g : GoodS fa K xr mine H₀ fx W D H F ow r) (ev : Evo H F ow H1 F1 ow1) : GoodS fa K xr mine H₀ fx W D H1 F1 ow1 r := by
  cases r with
  | nx e => exact fun σ' H' F' ow' h => g σ' H' F' ow' (ev.trans h)
  | bk e => exact fun σ' H' F' ow' h => g σ' H' F' ow' (ev.trans h)
  | ct e => exact fun σ' H' F' ow' h => g σ' H' F' ow' (ev.trans h)
  | rt d e => exact fun v σ' H' F' ow' h => g v σ' H' F' ow' (ev.trans h)
  | ex x e => exact fun cls dd σ' H' F' ow' h => g cls dd σ' H' F' ow' (ev.trans h)
  | no => exact g
theorem GoodS.fl {α : Type} {r : Mi.R α} {f : α → En → Fl} (hx : fx σ) (g : GoodS fa K xr mine H₀ fx W D H F ow (r.fl f)) : Good fa K xr W σ H F ow r fun a e H' F' ow' => GoodS fa K xr mine H₀ fx W D H' F' ow' (f a e) := by
  cases r with
  | ok a e => exact fun H' F' ow' h1 h2 => GoodS.shift g h1
  | ex x e => exact fun cls dd H' F' ow' h1 h2 h3 => g cls dd σ H' F' ow' h1 hx h2 h3
  | no => exact g
theorem GoodS.nx {e : En} (g : GoodS fa K xr mine H₀ fx W D H F ow (.nx e)) (hx : fx σ) (s : Gst fa K H F ow e σ) : D.nx σ H := g σ H F ow .refl hx s
theorem dom_trans (h : Hd H₀ fx H σ) (ev : Evo H F ow H1 F1 ow1) : Hd H₀ fx H1 σ := ⟨fun a q => ev.dom a (h.1 a q), h.2⟩
theorem dom_to {σ' : St} (h : Hd H₀ fx H σ) (ev : Evo H F ow H1 F1 ow1) (hx : fx σ') : Hd H₀ fx H1 σ' := ⟨fun a q => ev.dom a (h.1 a q), hx⟩
theorem Vd.start {fr : Bool} {H' F' : Hp} {ow' : Ow} {d : Mi.D} {v : V} (h : Vd fa K fr H H' F' ow' d v) (hn : ∀ q, H q = none → H₀ q = none) : Vd fa K fr H₀ H' F' ow' d v := by
  cases fr with
  | false => exact Vd.of (h.rep (fr := false))
  | true =>
    cases d with
    | lst ds =>
      obtain ⟨q, us, rfl, h1, h2, h3, h4, h5⟩ := h
      exact ⟨q, us, rfl, hn q h1, h2, h3, h4, h5⟩
    | dct ds =>
      obtain ⟨q, us, rfl, h1, h2, h3, h4, h5⟩ := h
      exact ⟨q, us, rfl, hn q h1, h2, h3, h4, h5⟩
    | _ => exact h
/-! ### blocks -/
theorem sns_nil : PSs X [] (tS fa X.K xr mine H₀ fx W fun e => .nx e) := pss_nil.imp fun D σ H ⟨F, ow, e, hd, s, g⟩ => GoodS.nx g hd.2 s
theorem sns_cons {a r : En → Fl} {st : Stmt} {rest : List Stmt} (h1 : PS X st (tS fa X.K xr mine H₀ fx W a)) (h2 : PSs X rest (tS fa X.K xr mine H₀ fx W r)) : PSs X (st :: rest) (tS fa X.K xr mine H₀ fx W (sSeq a r)) := by
  refine (pss_cons h1 h2).imp fun D σ H ⟨F, ow, e, hd, s, g⟩ => ⟨F, ow, e, hd, s, ?_⟩
  unfold sSeq at g
  cases q : a e with
  | nx e' =>
    rw [q] at g
    exact fun σ' H' F' ow' ev hx s' => ⟨F', ow', e', dom_to hd ev hx, s', GoodS.shift g ev⟩
  | bk e' => rw [q] at g; exact g
  | ct e' => rw [q] at g; exact g
  | rt d e' => rw [q] at g; exact g
  | ex x e' => rw [q] at g; exact g
  | no => rw [q] at g; exact g
theorem sns_pass {pos : Pos} : PS X (.Pass pos) (tS fa X.K xr mine H₀ fx W fun e => .nx e) := ps_pass.imp fun D σ H ⟨F, ow, e, hd, s, g⟩ => GoodS.nx g hd.2 s
theorem sns_brk {pos : Pos} : PS X (.Break pos) (tS fa X.K xr mine H₀ fx W fun e => .bk e) := ps_break.imp fun D σ H ⟨F, ow, e, hd, s, g⟩ => g σ H F ow .refl hd.2 s
theorem sns_cont {pos : Pos} : PS X (.Continue pos) (tS fa X.K xr mine H₀ fx W fun e => .ct e) := ps_continue.imp fun D σ H ⟨F, ow, e, hd, s, g⟩ => g σ H F ow .refl hd.2 s
theorem sns_junk {st : Stmt} : PS X st (tS fa X.K xr mine H₀ fx W fun _ => .no) := ⟨fun pins s σ H D I ⟨F, ow, e, _, _, g⟩ => g.elim⟩
theorem sns_doc {x j pos pos'} : PS X (.Expr (.Constant (.str x) j pos) pos') (tS fa X.K xr mine H₀ fx W fun e => .nx e) := ps_doc.imp fun D σ H ⟨F, ow, e, hd, s, g⟩ => GoodS.nx g hd.2 s
theorem sns_ret {a : M} {fr : Bool} {ea : Expr} {pos : Pos} (h : PE X ea (tE fa X.K xr fr W (evE c a))) (hf : fr = a.fresh c.own) (hm : c.mine = mine) : PS X (.Return (some ea) pos) (tS fa X.K xr mine H₀ fx W (sRet c a)) := by
  have h : PE X ea (tE fa X.K xr (mine && fr) W (evE c a)) := by
    cases mine with
    | true => exact h
    | false => exact pe_weak h
  refine (ps_ret h).imp fun D σ H ⟨F, ow, e, hd, s, g⟩ => ⟨F, ow, e, s, ?_⟩
  unfold sRet at g
  refine (GoodS.fl hd.2 g).mono fun d e1 H1 F1 ow1 ev1 s1 g1 v hv => ?_
  split at g1
  · exact g1.elim
  · rename_i hc
    refine g1 v σ H1 F1 ow1 .refl hd.2 s1 ?_
    rw [hm, ← hf] at hc
    cases mine with
    | false => exact Vd.of (hv.rep (fr := false))
    | true =>
      cases fr with
      | false => simp at hc
      | true => exact Vd.start (fr := true) hv fun q h1 => Classical.byContradiction fun z => hd.1 q z h1
theorem sns_ret0 {pos : Pos} (hm : c.mine = mine) : PS X (.Return none pos) (tS fa X.K xr mine H₀ fx W (fun e => if c.mine then .no else .rt .non e)) := by
  refine ps_retN.imp fun D σ H ⟨F, ow, e, hd, s, g⟩ => ?_
  split at g
  · exact g.elim
  · rename_i hc
    refine g .non σ H F ow .refl hd.2 s ?_
    rw [hm] at hc
    cases mine with
    | true => simp at hc
    | false => exact Vd.of .non
theorem sns_if {t : M} {a b : En → Fl} {et : Expr} {sa sb : List Stmt} {pos : Pos} (ht : PT X et (tT fa X.K xr W (tru' (evE c t)))) (ha : PSs X sa (tS fa X.K xr mine H₀ fx W a)) (hb : PSs X sb (tS fa X.K xr mine H₀ fx W b)) : PS X (.If et sa sb pos) (tS fa X.K xr mine H₀ fx W (sIfe c t a b)) := by
  refine (ps_if ht ha hb).imp fun D σ H ⟨F, ow, e, hd, s, g⟩ => ⟨F, ow, e, s, ?_⟩
  have g : GoodS fa X.K xr mine H₀ fx W D H F ow ((tru' (evE c t) e).fl fun k e => if k then a e else b e) := by
    unfold sIfe at g
    unfold tru'
    cases q : evE c t e with
    | no => rw [q] at g; exact g
    | ex x e' => rw [q] at g; exact g
    | ok d e' =>
      rw [q] at g
      have g : GoodS fa X.K xr mine H₀ fx W D H F ow (match tru d with | some true => a e' | some false => b e' | none => .no) := g
      show GoodS fa X.K xr mine H₀ fx W D H F ow ((lift (tru d) e').fl fun k e => if k then a e else b e)
      cases q2 : tru d with
      | none => rw [q2] at g; exact g
      | some k => rw [q2] at g; cases k <;> exact g
  refine (GoodS.fl hd.2 g).mono fun k e1 H1 F1 ow1 ev1 s1 g1 => ?_
  cases k with
  | true => exact ⟨F1, ow1, e1, dom_trans hd ev1, s1, g1⟩
  | false => exact ⟨F1, ow1, e1, dom_trans hd ev1, s1, g1⟩
/-! ### loops -/
theorem forL_cons {tg : Tg} {body : En → Fl} {x : Mi.D} {xs : List Mi.D} {e : En} : forL tg c body (x :: xs) e = if okTg c e tg then (match bindL e tg x with
    | some e => (match body e with | .nx e => forL tg c body xs e | .ct e => forL tg c body xs e | .bk e => .nx e | r => r)
    | none => .no) else .no := by
  show (if okTg c e tg then bindTg e tg x (fun e => match body e with | .nx e => forL tg c body xs e | .ct e => forL tg c body xs e | .bk e => .nx e | r => r) .no else .no) = _
  rw [bindTg_eq]
  all_goals rfl
theorem sns_for (hfx : ∀ {tg : Tg} {e : En} {σ σ' : St}, (∀ own, tgIn own tg = true → wipe σ' own = wipe σ own) → okTg c e tg = true → fx σ → fx σ') {tg : Tg} {it : It} {b : En → Fl} {et ei : Expr} {sb : List Stmt} {pos : Pos} (hp : PassesOwn (model X.prog X.w) X.A X.env X.xe) (hc : X.calm = true) (hi : PI X et ei (tI fa X.K xr W (evI c it))) (hg : PG X et (tgR X.K tg)) (hb : PSs X sb (tS fa X.K xr mine H₀ fx W b)) (hf : ∀ x, foldedSetIterable ei X.env x = pure x) :
    PS X (.For et ei sb [] pos) (tS fa X.K xr mine H₀ fx W (sFor c tg it b)) := by
  refine (ps_for hp hc hi hg hb hf).imp fun D σ H ⟨F, ow, e, hd, s, g⟩ => ⟨F, ow, e, s, ?_⟩
  unfold sFor at g
  refine (GoodS.fl hd.2 g).mono fun xs e1 H1 F1 ow1 ev1 s1 g1 J wk => ?_
  refine ⟨fun i m σ' H' => i ≤ xs.length ∧ m = xs.length - i ∧ ∃ F' ow' e', fx σ' ∧ Evo H1 F1 ow1 H' F' ow' ∧ Gst fa X.K H' F' ow' e' σ' ∧ GoodS fa X.K xr mine H₀ fx W D H' F' ow' (forL tg c b (xs.drop i) e'),
    ⟨xs.length, Nat.zero_le _, rfl, F1, ow1, e1, hd.2, .refl, s1, g1⟩, ?_⟩
  rintro i m σ' H' ⟨hi, rfl, F', ow', e', hx', ev, s', g'⟩
  by_cases hlt : i < xs.length
  · refine .inr ?_
    have hx : xs[i]? = some xs[i] := List.getElem?_eq_getElem hlt
    rw [List.drop_eq_getElem_cons hlt, forL_cons] at g'
    obtain ⟨hgo, hy⟩ := wk.go H' F' ow' ev.mono s'.sub i _ hx
    refine ⟨hgo, fun σ'' H'' => ∃ F'' ow'' e'', fx σ'' ∧ Evo H1 F1 ow1 H'' F'' ow'' ∧ Gst fa X.K H'' F'' ow'' e'' σ'' ∧ GoodS fa X.K xr mine H₀ fx W D H'' F'' ow'' (forL tg c b (xs.drop (i + 1)) e''), fun σ'' H'' h => ⟨xs.length - (i + 1), by omega, by omega, rfl, h⟩, fun x H'' y => ?_⟩
    obtain ⟨F'', gr, rx⟩ := hy x H'' y
    have evg : Evo H' F' ow' H'' F'' ow' := .grow gr
    split at g'
    · rename_i hok
      cases hb' : bindL e' tg xs[i] with
      | none => rw [hb'] at g'; exact g'.elim
      | some eb =>
        rw [hb'] at g'
        refine tg_sound (s'.grow gr) rx hb' fun σ2 s2 hw => ⟨F'', ow', eb, dom_to (dom_trans (dom_trans hd ev1) ev) evg (hfx (fun own h => hw own h) hok hx'), s2, ?_⟩
        simp only at g'
        cases hbe : b eb with
        | nx e3 =>
          rw [hbe] at g'
          exact fun σ3 H3 F3 ow3 ev3 hx3 s3 => ⟨F3, ow3, e3, hx3, (ev.trans evg).trans ev3, s3, GoodS.shift g' (evg.trans ev3)⟩
        | ct e3 =>
          rw [hbe] at g'
          exact fun σ3 H3 F3 ow3 ev3 hx3 s3 => ⟨F3, ow3, e3, hx3, (ev.trans evg).trans ev3, s3, GoodS.shift g' (evg.trans ev3)⟩
        | bk e3 => rw [hbe] at g'; exact fun σ3 H3 F3 ow3 ev3 hx3 s3 => GoodS.nx (GoodS.shift (r := .nx e3) g' (evg.trans ev3)) hx3 s3
        | rt d e3 => rw [hbe] at g'; exact fun v σ3 H3 F3 ow3 ev3 hx3 s3 => g' v σ3 H3 F3 ow3 (evg.trans ev3) hx3 s3
        | ex x e3 => rw [hbe] at g'; exact fun cls dd σ3 H3 F3 ow3 ev3 hx3 s3 => g' cls dd σ3 H3 F3 ow3 (evg.trans ev3) hx3 s3
        | no => rw [hbe] at g'; exact g'.elim
    · exact g'.elim
  · have e : i = xs.length := by omega
    subst e
    rw [List.drop_length] at g'
    have g' : GoodS fa X.K xr mine H₀ fx W D H' F' ow' (.nx e') := g'
    exact .inl ⟨wk.stop H' F' ow' ev.mono s'.sub, GoodS.nx g' hx' s'⟩
theorem sns_whl {t : M} {b : En → Fl} {et : Expr} {sb : List Stmt} {pos : Pos} (hp : PassesOwn (model X.prog X.w) X.A X.env X.xe) (ht : PT X et (tT fa X.K xr W (tru' (evE c t)))) (hb : PSs X sb (tS fa X.K xr mine H₀ fx W b)) :
    PS X (.While et sb [] pos) (tS fa X.K xr mine H₀ fx W (sWhl c t b)) := by
  refine (ps_while hp ht hb).imp fun D σ H ⟨F, ow, e, hd, s, g⟩ => ?_
  unfold sWhl at g
  refine ⟨fun n σ' H' => ∃ F' ow' e', Hd H₀ fx H' σ' ∧ Gst fa X.K H' F' ow' e' σ' ∧ GoodS fa X.K xr mine H₀ fx W D H' F' ow' (whlL (evE c t) b n e'), ⟨c.turns, F, ow, e, hd, s, g⟩, ?_⟩
  rintro n σ' H' ⟨F', ow', e', hd', s', g'⟩
  cases n with
  | zero => exact g'.elim
  | succ n =>
    refine ⟨F', ow', e', s', ?_⟩
    have g' : GoodS fa X.K xr mine H₀ fx W D H' F' ow' ((evE c t e').fl fun d e => match tru d with
      | some true => (match b e with | .nx e => whlL (evE c t) b n e | .ct e => whlL (evE c t) b n e | .bk e => .nx e | r => r)
      | some false => .nx e
      | none => .no) := g'
    unfold tru'
    cases q : evE c t e' with
    | no => rw [q] at g'; exact g'.elim
    | ex x e2 => rw [q] at g'; exact fun cls dd H2 F2 ow2 ev2 s2 => g' cls dd σ' H2 F2 ow2 ev2 hd'.2 s2
    | ok d e2 =>
      rw [q] at g'
      have g' : GoodS fa X.K xr mine H₀ fx W D H' F' ow' (match tru d with
        | some true => (match b e2 with | .nx e => whlL (evE c t) b n e | .ct e => whlL (evE c t) b n e | .bk e => .nx e | r => r)
        | some false => .nx e2
        | none => .no) := g'
      show Good fa X.K xr W σ' H' F' ow' (lift (tru d) e2) _
      cases q2 : tru d with
      | none => rw [q2] at g'; exact g'.elim
      | some k =>
        rw [q2] at g'
        intro H2 F2 ow2 ev2 s2
        cases k with
        | false => exact GoodS.nx (GoodS.shift g' ev2) hd'.2 s2
        | true =>
          refine ⟨fun σ3 H3 => ∃ F3 ow3 e3, Hd H₀ fx H3 σ3 ∧ Gst fa X.K H3 F3 ow3 e3 σ3 ∧ GoodS fa X.K xr mine H₀ fx W D H3 F3 ow3 (whlL (evE c t) b n e3), fun σ3 H3 h => ⟨n, Nat.lt_succ_self _, h⟩, F2, ow2, e2, dom_trans hd' ev2, s2, ?_⟩
          simp only at g'
          cases hbe : b e2 with
          | nx e3 => rw [hbe] at g'; exact fun σ3 H3 F3 ow3 ev3 hx3 s3 => ⟨F3, ow3, e3, dom_to (dom_trans hd' ev2) ev3 hx3, s3, GoodS.shift g' (ev2.trans ev3)⟩
          | ct e3 => rw [hbe] at g'; exact fun σ3 H3 F3 ow3 ev3 hx3 s3 => ⟨F3, ow3, e3, dom_to (dom_trans hd' ev2) ev3 hx3, s3, GoodS.shift g' (ev2.trans ev3)⟩
          | bk e3 => rw [hbe] at g'; exact fun σ3 H3 F3 ow3 ev3 hx3 s3 => GoodS.nx (GoodS.shift (r := .nx e3) g' (ev2.trans ev3)) hx3 s3
          | rt d e3 => rw [hbe] at g'; exact fun v σ3 H3 F3 ow3 ev3 hx3 s3 => g' v σ3 H3 F3 ow3 (ev2.trans ev3) hx3 s3
          | ex x e3 => rw [hbe] at g'; exact fun cls dd σ3 H3 F3 ow3 ev3 hx3 s3 => g' cls dd σ3 H3 F3 ow3 (ev2.trans ev3) hx3 s3
          | no => rw [hbe] at g'; exact g'.elim
end
/-- the slots that were lent are as they were -/
def Fx (c : Cfg) (σ₀ σ : St) : Prop := ∀ j, c.lent j = true → σ[j]? = σ₀[j]?
theorem Fx.set {c : Cfg} {σ₀ σ : St} {e : En} {i : Nat} {v : Option V} (h : Fx c σ₀ σ) (ok : okS c e i = true) : Fx c σ₀ (σ.set i v) := fun j hj => by
  have : i ≠ j := fun z => by subst z; unfold okS at ok; rw [hj] at ok; cases ok
  rw [List.getElem?_set_ne this]; exact h j hj
def tgSlots : Tg → List Nat | .n i => [i] | .t is => is
theorem Fx.tg {c : Cfg} {σ₀ σ σ' : St} {e : En} {tg : Tg} (hw : ∀ own, tgIn own tg = true → wipe σ' own = wipe σ own) (ok : okTg c e tg = true) (h : Fx c σ₀ σ) : Fx c σ₀ σ' := fun j hj => by
  have hin : tgIn (tgSlots tg) tg = true := by cases tg <;> simp [tgIn, tgSlots]
  have hn : j ∉ tgSlots tg := fun z => by
    cases tg with
    | n i =>
             have e' : j = i := by simpa [tgSlots] using z
             subst e'
             have ok : (!c.lent j && decide (j < e.length)) = true := ok
             rw [hj] at ok
             cases ok
    | t is =>
      have ok : (is.all fun i => !c.lent i && decide (i < e.length)) = true := ok
      have := List.all_eq_true.mp ok j z
      rw [hj] at this; cases this
  have q := congrArg (fun l => l[j]?) (hw _ hin)
  simp only [wipe_out hn] at q
  rw [q]; exact h j hj
end Mi
end
section
/-! statements: assignments, lists that are changed -/
namespace Mi
open PySem L2 PySem.Spec
section
variable {lev : Nat} {fa : Nat → Option Addr} {K : PySem.W.Frag} {xr : XR} {mine : Bool} {H₀ : Hp} {σ₀ : St} {m : Nm} {c : Cfg} {sc : Scope} {W : WX} {X : Cx} {H F H1 F1 : Hp} {ow ow1 : Ow} {e : En} {σ : St}
theorem weakR {ce : CE} {Q : VK} (h : tE fa K xr false W ce σ H Q) : tE fa K xr true W ce σ H Q := by
  obtain ⟨F, ow, env, s, g⟩ := h
  refine ⟨F, ow, env, s, ?_⟩
  cases hr : ce env with
  | ok d e' =>
    rw [hr] at g
    intro H' F' ow' ev s' v hv
    unfold Vd at hv
    split at hv
    · obtain ⟨p, vs, rfl, h0, hp, hF, hO, r⟩ := hv
      have mono : Sub F' (upd F' p (.lst vs)) := Sub.new Sub.refl hF
      refine g H' (upd F' p (.lst vs)) ow' ⟨ev.mono.trans mono, ev.keep, ev.dom, fun a h => ?_, ev.newO, ev.newM⟩ (s'.ice hF hO hp) _ (Vd.of (.lst (.inl upd_same) (r.mono mono)))
      by_cases ha : a = p
      · subst ha; exact .inr (.inr h0)
      · rw [upd_ne ha] at h; exact ev.newF a h
    · obtain ⟨p, vs, rfl, h0, hp, hF, hO, r⟩ := hv
      have mono : Sub F' (upd F' p (.dK vs)) := Sub.new Sub.refl hF
      refine g H' (upd F' p (.dK vs)) ow' ⟨ev.mono.trans mono, ev.keep, ev.dom, fun a h => ?_, ev.newO, ev.newM⟩ (s'.ice hF hO hp) _ (Vd.of (.dct upd_same (r.mono mono)))
      by_cases ha : a = p
      · subst ha; exact .inr (.inr h0)
      · rw [upd_ne ha] at h; exact ev.newF a h
    · exact g H' F' ow' ev s' v (Vd.of hv)
  | ex x e' => rw [hr] at g; exact g
  | no => rw [hr] at g; exact g
/-- a floating list gets an owner -/
def owS (ow : Ow) (p : Addr) (i : Nat) : Ow := fun a => if a = p then some (true, i) else ow a
theorem Evo.adopt {p : Addr} {i : Nat} (ev : Evo H F ow H1 F1 ow1) (h : H p = none) : Evo H F ow H1 F1 (owS ow1 p i) := by
  refine ⟨ev.mono, ev.keep, ev.dom, ev.newF, fun a q => ?_, fun a q => ?_⟩
  · by_cases ha : a = p
    · subst ha; exact .inr h
    · unfold owS at q; rw [if_neg ha] at q; exact ev.newO a q
  · by_cases ha : a = p
    · subst ha; exact .inr h
    · unfold owS at q; rw [if_neg ha] at q; exact ev.newM a q
theorem Gst.adopt {p : Addr} {i : Nat} {q : P} (s : Gst fa K H F ow e σ) (hF : F p = none) (hO : ow p = none) (hH : H p ≠ none) (hq : SlotOk fa K H F (owS ow p i) i q (some (.ref p))) : Gst fa K H F (owS ow p i) (e.set i q) (σ.set i (some (.ref p))) := by
  have np : ∀ b z, ow b = some z → b ≠ p := fun b z h e => by subst e; rw [hO] at h; cases h
  have go : ∀ b z, ow b = some z → owS ow p i b = some z := fun b z h => by unfold owS; rw [if_neg (np b z h)]; exact h
  refine ⟨s.sub, fun a j h => ?_, by rw [List.length_set, List.length_set, s.len], fun j r h => ?_⟩
  · by_cases ha : a = p
    · subst ha; exact ⟨hF, hH⟩
    · unfold owS at h; rw [if_neg ha] at h; exact s.own a j h
  · by_cases hj : i = j
    · subst hj
      have hl : i < e.length := by
        cases Nat.lt_or_ge i e.length with
        | inl h' => exact h'
        | inr h' => rw [List.getElem?_eq_none (by simpa using h')] at h; cases h
      rw [List.getElem?_set_self hl] at h
      cases h
      exact ⟨some (.ref p), List.getElem?_set_self (by rw [← s.len]; exact hl), hq⟩
    · rw [List.getElem?_set_ne hj] at h
      obtain ⟨o, h1, h2⟩ := s.slot j r h
      exact ⟨o, by rw [List.getElem?_set_ne hj]; exact h1, h2.move Sub.refl fun b k w h3 h4 h5 => ⟨go b _ h3, h4, h5⟩⟩
/-- a value is stored -/
theorem keep_ok {i : Nat} {a : M} {d : Mi.D} {v : V} {fr : Bool} (ev : Evo H F ow H1 F1 ow1) (s : Gst fa K H1 F1 ow1 e σ) (hv : Vd fa K fr H H1 F1 ow1 d v) (hf : fr = (c.mu i && a.fresh c.own)) :
    ∃ ow2, Evo H F ow H1 F1 ow2 ∧ Gst fa K H1 F1 ow2 (e.set i (keepP c i a d)) (σ.set i (some v)) := by
  unfold keepP
  rw [← hf]
  cases fr with
  | false => exact ⟨ow1, ev, s.set (hv.rep (fr := false))⟩
  | true =>
    cases d with
    | lst xs =>
      obtain ⟨p, us, rfl, h0, hp, hF, hO, r⟩ := hv
      exact ⟨_, ev.adopt h0, s.adopt hF hO (by rw [hp]; simp) ⟨p, us, rfl, by unfold owS; rw [if_pos rfl], hF, hp, r⟩⟩
    | dct xs =>
      obtain ⟨p, us, rfl, h0, hp, hF, hO, r⟩ := hv
      exact ⟨_, ev.adopt h0, s.adopt hF hO (by rw [hp]; simp) ⟨p, us, rfl, by unfold owS; rw [if_pos rfl], hF, hp, r⟩⟩
    | _ => exact ⟨ow1, ev, s.set hv⟩
theorem set_comp (C : Ctx lev fa xr m c sc W X) {i : Nat} {x : Str} {a : M} {e : Expr} {pos pos' : Pos} (hx : nmL m.N sc i x = true) (h : chkE m sc a e = true) : PS X (.Assign [.Name x pos'] e pos) (tAsg (tE fa X.K xr (a.fresh c.own) W (evE c a)) (gName i)) := by
  obtain ⟨h1, h2, h3⟩ := loc_of C hx
  have hN : X.N.Nodup := by rw [C.hN]; exact C.nd
  have plain : (∀ y, swapsWith e (some (.Name x pos')) pos.line X.env = pure y → y = false) → swapsWith e (some (.Name x pos')) pos.line X.env = pure false → PS X (.Assign [.Name x pos'] e pos) (tAsg (tE fa X.K xr (a.fresh c.own) W (evE c a)) (gName i)) := fun _ hs =>
    ps_set hN h1 h2 (sndE a C h).1 hs h3
  have plain' : swapsWith e (some (.Name x pos')) pos.line X.env = pure false → PS X (.Assign [.Name x pos'] e pos) (tAsg (tE fa X.K xr (a.fresh c.own) W (evE c a)) (gName i)) := fun hs => ps_set hN h1 h2 (sndE a C h).1 hs h3
  have junk : (∃ b, a = .bool b .nil) → PS X (.Assign [.Name x pos'] e pos) (tAsg (tE fa X.K xr (a.fresh c.own) W (evE c a)) (gName i)) := fun ⟨b, hb⟩ => by
    subst hb
    exact ⟨fun pins s σ H D I ⟨F, ow, e, _, g⟩ => g.elim⟩
  cases e with
  | ListComp b gs s p =>
    cases a with
    | comp own elt tg it ifs =>
      match gs, h with
      | [⟨et, ei, es, as⟩], h =>
        have h' := h
        simp only [chkE, Bool.and_eq_true, decide_eq_true_eq] at h'
        obtain ⟨⟨⟨⟨⟨⟨⟨⟨⟨⟨k1, k2⟩, k3⟩, kit⟩, k4⟩, k5⟩, k6⟩, k7⟩, k8⟩, k9⟩, k10⟩ := h'
        subst k6
        cases hb : (X.env.blockKind == .function && X.env.kindOf x == some .local && pos'.line == p.line && !(s.names.any fun (n, k) => n == x && (k == .local || k == .cell))) with
        | false =>
          refine plain' ?_
          show (pure (X.env.blockKind == .function && X.env.kindOf x == some .local && pos'.line == p.line && !(s.names.any fun (n, k) => n == x && (k == .local || k == .cell))) : Sem Bool) = pure false
          rw [hb]
        | true =>
          have hsw : swapsWith (.ListComp b [⟨et, ei, es, 0⟩] s p) (some (.Name x pos')) pos.line X.env = pure true := by
            show (pure (X.env.blockKind == .function && X.env.kindOf x == some .local && pos'.line == p.line && !(s.names.any fun (n, k) => n == x && (k == .local || k == .cell))) : Sem Bool) = pure true
            rw [hb]
          simp only [Bool.and_eq_true, beq_iff_eq] at hb
          have hyl : X.env.scope.names.lookup x = some .local := hb.1.1.2
          have hown : (ownOk m.N own).map (·.2) = own := by unfold ownOk; rw [List.map_map]; exact List.map_id _
          have key := ps_setLc (pos := p) (spos := pos) (wi := tI fa X.K xr W (evI c it)) (tt := tT fa X.K xr W0 (tsC (evEs c ifs))) (te := tE fa X.K xr false W0 (evE c elt)) (g := tgR X.K tg) C.calm hN h1 hyl hsw (sndI it C k5 kit k4) (C.blkOk k1) (fun s' H' a cl fp => pg_tg (C.blk (cl := cl) (a := a) (sh := s') (H := H') (fp := fp)) k4)
            (fun s' H' a cl fp => sndT ifs (C.blk (cl := cl) (a := a) (sh := s') (H := H') (fp := fp)) k8 k9 k10)
            (fun s' H' a cl fp => pe_weak (sndE elt (C.blk (cl := cl) (a := a) (sh := s') (H := H') (fp := fp)) k7).1) (chkI_folded k5 _)
          rw [hown] at key
          refine key.imp fun D σ H h => ?_
          exact tlc_of (chkI_nb k5) k3 h
      | [], h => simp [chkE] at h
      | _ :: _ :: _, h => simp [chkE] at h
    | comp2 own own2 elt tg it ifs tg2 it2 ifs2 =>
      match gs, h with
      | [⟨et, ei, es, as⟩, ⟨et2, ei2, es2, as2⟩], h =>
        have h' := h
        simp only [chkE, Bool.and_eq_true, decide_eq_true_eq] at h'
        obtain ⟨⟨⟨⟨⟨⟨⟨⟨⟨⟨⟨⟨⟨⟨⟨⟨⟨⟨⟨k1, k2⟩, k3⟩, k4⟩, k5⟩, k6⟩, k7⟩, k8⟩, k9⟩, k10⟩, k11⟩, k12⟩, k13⟩, k14⟩, k15⟩, k16⟩, k17⟩, k18⟩, k19⟩, k20⟩ := h'
        subst k12 k13
        cases hb : (X.env.blockKind == .function && X.env.kindOf x == some .local && pos'.line == p.line && !(s.names.any fun (n, k) => n == x && (k == .local || k == .cell))) with
        | false =>
          refine plain' ?_
          show (pure (X.env.blockKind == .function && X.env.kindOf x == some .local && pos'.line == p.line && !(s.names.any fun (n, k) => n == x && (k == .local || k == .cell))) : Sem Bool) = pure false
          rw [hb]
        | true =>
          have hsw : swapsWith (.ListComp b [⟨et, ei, es, 0⟩, ⟨et2, ei2, es2, 0⟩] s p) (some (.Name x pos')) pos.line X.env = pure true := by
            show (pure (X.env.blockKind == .function && X.env.kindOf x == some .local && pos'.line == p.line && !(s.names.any fun (n, k) => n == x && (k == .local || k == .cell))) : Sem Bool) = pure true
            rw [hb]
          simp only [Bool.and_eq_true, beq_iff_eq] at hb
          have hyl : X.env.scope.names.lookup x = some .local := hb.1.1.2
          have hown : (ownOk m.N own).map (·.2) = own := by unfold ownOk; rw [List.map_map]; exact List.map_id _
          have hsub : ∀ i ∈ own2, i ∈ own := fun i hi => by have := List.all_eq_true.mp k3 i hi; simpa using this
          have key := ps_setLc2 (pos := p) (spos := pos) (vs1 := own2) (wi := tI fa X.K xr W (evI c it)) (wi1 := tI fa X.K xr W0 (evI c it2)) (tt := tT fa X.K xr W0 (tsC (evEs c ifs))) (tt1 := tT fa X.K xr W0 (tsC (evEs c ifs2))) (te := tE fa X.K xr false W0 (evE c elt)) (g := tgR X.K tg) (g1 := tgR X.K tg2) C.calm hN h1 hyl hsw (sndI it C k10 k6 k8) (C.blkOk k1) (by rw [hown]; exact hsub)
            (fun s' H' a cl fp => pg_tg (C.blk (cl := cl) (a := a) (sh := s') (H := H') (fp := fp)) k8) (fun s' H' a cl fp => sndT ifs (C.blk (cl := cl) (a := a) (sh := s') (H := H') (fp := fp)) k15 k17 k19)
            (fun s' H' a cl fp => sndI it2 (C.blk (cl := cl) (a := a) (sh := s') (H := H') (fp := fp)) k11 k7 k9) (fun s' H' a cl fp => pg_tg (C.blk (cl := cl) (a := a) (sh := s') (H := H') (fp := fp)) k9) (fun s' H' a cl fp => sndT ifs2 (C.blk (cl := cl) (a := a) (sh := s') (H := H') (fp := fp)) k16 k18 k20)
            (fun s' H' a cl fp => pe_weak (sndE elt (C.blk (cl := cl) (a := a) (sh := s') (H := H') (fp := fp)) k14).1) (chkI_folded k10 _) (fun env => chkI_folded k11 env)
          rw [hown] at key
          exact key.imp fun D σ H h => tlc2_of k4 k5 hsub h
      | [], h => simp [chkE] at h
      | [_], h => simp [chkE] at h
      | _ :: _ :: _ :: _, h => simp [chkE] at h
    | bool b es =>
      cases es with
      | nil => exact junk ⟨_, rfl⟩
      | cons _ _ _ => simp [chkE] at h
    | px o as => exfalso; unfold chkE at h; cases o <;> simp [pxC, bcC] at h
    | _ => simp [chkE] at h
  | SetComp _ _ _ _ =>
    cases a with
    | bool b es =>
      cases es with
      | nil => exact junk ⟨_, rfl⟩
      | cons _ _ _ => simp [chkE] at h
    | px o as => exfalso; unfold chkE at h; cases o <;> simp [pxC, bcC] at h
    | _ => simp [chkE] at h
  | DictComp kx vx gs s p =>
    cases a with
    | dcomp own k v tg it ifs =>
      match gs, h with
      | [⟨et, ei, es, as⟩], h =>
        have h' := h
        simp only [chkE, Bool.and_eq_true, decide_eq_true_eq] at h'
        obtain ⟨⟨⟨⟨⟨⟨⟨⟨⟨⟨⟨k1, k2⟩, k3⟩, kit⟩, k4⟩, k5⟩, k6⟩, k7⟩, k7'⟩, k8⟩, k9⟩, k10⟩ := h'
        subst k6
        cases hb : (X.env.blockKind == .function && X.env.kindOf x == some .local && pos'.line == p.line && !(s.names.any fun (n, k) => n == x && (k == .local || k == .cell))) with
        | false =>
          refine plain' ?_
          show (pure (X.env.blockKind == .function && X.env.kindOf x == some .local && pos'.line == p.line && !(s.names.any fun (n, k) => n == x && (k == .local || k == .cell))) : Sem Bool) = pure false
          rw [hb]
        | true =>
          have hsw : swapsWith (.DictComp kx vx [⟨et, ei, es, 0⟩] s p) (some (.Name x pos')) pos.line X.env = pure true := by
            show (pure (X.env.blockKind == .function && X.env.kindOf x == some .local && pos'.line == p.line && !(s.names.any fun (n, k) => n == x && (k == .local || k == .cell))) : Sem Bool) = pure true
            rw [hb]
          simp only [Bool.and_eq_true, beq_iff_eq] at hb
          have hyl : X.env.scope.names.lookup x = some .local := hb.1.1.2
          have hown : (ownOk m.N own).map (·.2) = own := by unfold ownOk; rw [List.map_map]; exact List.map_id _
          have key := ps_setDc (pos := p) (spos := pos) (wi := tI fa X.K xr W (evI c it)) (tt := tT fa X.K xr W0 (tsC (evEs c ifs))) (tk := tE fa X.K xr false W0 (evE c k)) (tv := tE fa X.K xr false W0 (evE c v)) (g := tgR X.K tg) C.calm hN h1 hyl hsw (sndI it C k5 kit k4) (C.blkOk k1) (fun s' H' a cl fp => pg_tg (C.blk (cl := cl) (a := a) (sh := s') (H := H') (fp := fp)) k4)
            (fun s' H' a cl fp => sndT ifs (C.blk (cl := cl) (a := a) (sh := s') (H := H') (fp := fp)) k8 k9 k10) (fun s' H' a cl fp => pe_weak (sndE k (C.blk (cl := cl) (a := a) (sh := s') (H := H') (fp := fp)) k7).1)
            (fun s' H' a cl fp => pe_weak (sndE v (C.blk (cl := cl) (a := a) (sh := s') (H := H') (fp := fp)) k7').1) (chkI_folded k5 _)
          rw [hown] at key
          exact key.imp fun D σ H h => tdc_of (it := it) k3 h
      | [], h => simp [chkE] at h
      | _ :: _ :: _, h => simp [chkE] at h
    | bool b es =>
      cases es with
      | nil => exact junk ⟨_, rfl⟩
      | cons _ _ _ => simp [chkE] at h
    | px o as => exfalso; unfold chkE at h; cases o <;> simp [pxC, bcC] at h
    | _ => simp [chkE] at h
  | _ => exact plain' rfl
theorem sns_asg (C : Ctx lev fa xr m c sc W X) {i : Nat} {x : Str} {a : M} {ea : Expr} {pos pos' : Pos} (hx : nmL m.N sc i x = true) (h : chkE m sc a ea = true) : PS X (.Assign [.Name x pos'] ea pos) (tS fa X.K xr mine H₀ (Fx c σ₀) W (sAsg c i a)) := by
  refine (set_comp C hx h).imp fun D σ H ⟨F, ow, e, hd, s, g⟩ => ?_
  have key : tE fa X.K xr (c.mu i && a.fresh c.own) W (evE c a) σ H fun v H1 => gName i v σ H1 D.nx := by
    refine ⟨F, ow, e, s, ?_⟩
    unfold sAsg at g
    cases q : evE c a e with
    | no => rw [q] at g; exact g.elim
    | ex x e' => rw [q] at g; exact fun cls dd H' F' ow' ev s' => g cls dd σ H' F' ow' ev hd.2 s'
    | ok d e1 =>
      rw [q] at g
      intro H1 F1 ow1 ev1 s1 v hv
      have g : GoodS fa X.K xr mine H₀ (Fx c σ₀) W D H F ow (if okS c e1 i then st e1 i (keepP c i a d) .nx else .no) := g
      split at g
      · rename_i hok
        rw [st_eq] at g
        obtain ⟨ow2, ev2, s2⟩ := keep_ok (c := c) ev1 s1 hv rfl
        exact g _ H1 F1 ow2 ev2 (hd.2.set hok) s2
      · exact g.elim
  cases hm : c.mu i with
  | true => rw [hm] at key; exact key
  | false =>
    rw [hm] at key
    show tE fa X.K xr (a.fresh c.own) W (evE c a) σ H fun v H1 => gName i v σ H1 D.nx
    cases hf : a.fresh c.own with
    | true => exact weakR key
    | false => exact key
end
end Mi
end
section
/-! statements: lists that are changed, expressions dropped, pairs stored -/
namespace Mi
open PySem L2 PySem.Spec
section
variable {lev : Nat} {fa : Nat → Option Addr} {K : PySem.W.Frag} {xr : XR} {mine : Bool} {H₀ : Hp} {σ₀ : St} {m : Nm} {c : Cfg} {sc : Scope} {W : WX} {X : Cx} {H F H1 F1 : Hp} {ow ow1 : Ow} {e : En} {σ : St}
theorem set_any (hu : X.A.units + 1 < cLine) : PSet X (fun o i v H Q => rSetL o i v H Q ∨ ∃ a H', o = .ref a ∧ DPut H a i v H' ∧ Q H') := by
  intro pins s σ H o i v ov iv u Q I ro ri rv h
  rcases h with h | ⟨a, H', rfl, g, q⟩
  · exact set_list pins s σ H o i v ov iv u Q I ro ri rv h
  · cases ro
    exact d_setItem hu I g ri rv fun s' I' => ⟨H', I', q⟩
theorem sns_app (C : Ctx lev fa xr m c sc W X) {i : Nat} {x : Str} {a : M} {ea : Expr} {p apos pos spos : Pos} (hx : nmC m.N sc i x = true) (h : chkE m sc a ea = true) (hline : (apos.endLine == pos.line) = true) :
    PS X (.Expr (.Call (.Attribute (.Name x p) "append" apos) [ea] [] pos) spos) (tS fa X.K xr mine H₀ (Fx c σ₀) W (sApp c i a)) := by
  have hs := chk_plain h X.env []
  have ha := pe_weak (sndE a C h).1
  refine (ps_expr (pe_bm PySem.F.plainAttrs_list PySem.F.slot_list_append PySem.F.type_list_append mt_append (C.name hx) (pa_cons ha pa_nil hs) rfl (by rw [hs]; rfl) hline hs rfl) rfl).imp fun D σ H ⟨F, ow, env, hd, s, g⟩ => ?_
  unfold sApp at g
  cases q : gt env i with
  | ml xs =>
    rw [q] at g
    simp only at g
    obtain ⟨o, h1, a', vs, rfl, _, _, h4, _⟩ := s.slot i _ (gt_some q (by simp))
    refine ⟨_, h1, .inl ⟨rfl, _, SqL.of h4⟩, F, ow, env, s, ?_⟩
    refine (GoodS.fl hd.2 g).mono fun d e1 H1 F1 ow1 ev1 s1 g1 v hv => ?_
    cases q1 : gt e1 i with
    | ml ys =>
      rw [q1] at g1
      simp only at g1
      have hi := gt_some q1 (by simp)
      obtain ⟨o, k1, b, us, rfl, k2, k3, k4, k5⟩ := s1.slot i _ hi
      rw [h1] at k1
      cases k1
      split at g1
      · rename_i hz
        rw [st_eq] at g1
        obtain ⟨s', ev⟩ := s1.write (q := .ml (ys ++ [d])) (o := .lst (us ++ [v])) hi h1 k2 k3 ⟨a', _, rfl, k2, k3, upd_same, k5.append (.cons (hv.rep (fr := false)) .nil)⟩
        exact ⟨a', us, v, rfl, rfl, k4, by rw [← k5.length]; exact hz, g1 σ _ _ _ ev hd.2 s'⟩
      · exact g1.elim
    | _ => rw [q1] at g1; exact g1.elim
  | _ => rw [q] at g; exact g.elim
theorem sns_e (C : Ctx lev fa xr m c sc W X) {a : M} {ea : Expr} {pos : Pos} (h : chkE m sc a ea = true) (hs : swapsWith ea none pos.line X.env = pure false) : PS X (.Expr ea pos) (tS fa X.K xr mine H₀ (Fx c σ₀) W (sE c a)) := by
  refine (ps_expr (pe_weak (sndE a C h).1) hs).imp fun D σ H ⟨F, ow, env, hd, s, g⟩ => ⟨F, ow, env, s, ?_⟩
  unfold sE at g
  exact (GoodS.fl hd.2 g).mono fun d e1 H1 F1 ow1 ev1 s1 g1 v hv => g1 σ H1 F1 ow1 .refl hd.2 s1
theorem sns_setI (C : Ctx lev fa xr m c sc W X) {i : Nat} {x : Str} {ix a : M} {ex ea : Expr} {p tpos pos : Pos} (hx : nmC m.N sc i x = true) (h : chkE m sc a ea = true) (hi : chkE m sc ix ex = true)
    (hsw : swapsWithSole [.Subscript (.Name x p) ex tpos] ea pos.line X.env = pure false) (hst : swappedStores [.Subscript (.Name x p) ex tpos] ea X.env = pure none) (hassign : ∀ v, assign (.Subscript (.Name x p) ex tpos) X.env v = (do
      let ov ← holding [v] (eval (.Name x p) X.env)
      let iv ← holding [v, ov] (eval ex X.env)
      standAt tpos
      holding [v, ov, iv] (setItem ov iv v)
      release [v, ov, iv] [])) (hl : ∀ d e, evE c a e = .ok d e → True) :
    PS X (.Assign [.Subscript (.Name x p) ex tpos] ea pos) (tS fa X.K xr mine H₀ (Fx c σ₀) W (sSetI c i ix a)) := by
  refine (ps_asg (pe_weak (sndE a C h).1) (pg_sub (C.name hx) (pe_weak (sndE ix C hi).1) (set_any (by have := C.units; omega)) hassign) hsw hst rfl).imp fun D σ H ⟨F, ow, env, hd, s, g⟩ => ⟨F, ow, env, s, ?_⟩
  unfold sSetI at g
  refine (GoodS.fl hd.2 g).mono fun d e1 H1 F1 ow1 ev1 s1 g1 v hv => ?_
  cases q : gt e1 i with
  | ml xs =>
    rw [q] at g1
    simp only at g1
    obtain ⟨o, h1, a', vs, rfl, _, _, h4, _⟩ := s1.slot i _ (gt_some q (by simp))
    refine ⟨_, h1, F1, ow1, e1, s1, ?_⟩
    refine (GoodS.fl hd.2 g1).mono fun y e2 H2 F2 ow2 ev2 s2 g2 w hw => ?_
    cases q2 : gt e2 i with
    | ml ys =>
      rw [q2] at g2
      simp only at g2
      have hi := gt_some q2 (by simp)
      obtain ⟨o, k1, b, us, rfl, k2, k3, k4, k5⟩ := s2.slot i _ hi
      rw [h1] at k1
      cases k1
      have hw := hw.rep (fr := false)
      cases y with
      | int k =>
        cases hw
        simp only at g2
        cases q3 : ixN ys.length k with
        | none => rw [q3] at g2; exact g2.elim
        | some j =>
          rw [q3] at g2
          simp only at g2
          rw [st_eq] at g2
          obtain ⟨s', ev⟩ := s2.write (q := .ml (ys.set j d)) (o := .lst (us.set j v)) hi h1 k2 k3 ⟨a', _, rfl, k2, k3, upd_same, k5.set j ((hv.rep (fr := false)).mono ev2.mono)⟩
          exact .inl ⟨a', us, k, j, rfl, rfl, k4, by rw [← k5.length]; exact q3, g2 σ _ _ _ ev hd.2 s'⟩
      | _ => exact g2.elim
    | _ => rw [q2] at g2; exact g2.elim
  | md xs =>
    rw [q] at g1
    simp only at g1
    obtain ⟨o, h1, a', vs, rfl, _, _, h4, _⟩ := s1.slot i _ (gt_some q (by simp))
    refine ⟨_, h1, F1, ow1, e1, s1, ?_⟩
    refine (GoodS.fl hd.2 g1).mono fun y e2 H2 F2 ow2 ev2 s2 g2 w hw => ?_
    cases q2 : gt e2 i with
    | md ys =>
      rw [q2] at g2
      simp only at g2
      have hi := gt_some q2 (by simp)
      obtain ⟨o, k1, b, us, rfl, k2, k3, k4, k5⟩ := s2.slot i _ hi
      rw [h1] at k1
      cases k1
      have hw := hw.rep (fr := false)
      cases q3 : keyD y with
      | none => rw [q3] at g2; exact g2.elim
      | some k =>
        rw [q3] at g2
        simp only at g2
        split at g2
        · rename_i hz
          rw [st_eq] at g2
          obtain ⟨s', ev⟩ := s2.write (q := .md (putD ys k d)) (o := .dK (putK us k v)) hi h1 k2 k3 ⟨a', _, rfl, k2, k3, upd_same, k5.put (hw.key q3).2 ((hv.rep (fr := false)).mono ev2.mono)⟩
          refine .inr ⟨a', _, rfl, ?_, g2 σ _ _ _ ev hd.2 s'⟩
          rw [(hw.key q3).1]
          exact DPut.k k4 (by rw [← k5.length]; exact hz)
        · exact g2.elim
    | _ => rw [q2] at g2; exact g2.elim
  | _ => rw [q] at g1; exact g1.elim
/-- what slot i owns is changed -/
theorem Gst.put {i : Nat} {p q : P} {o : Option V} {H' : Hp} (s : Gst fa K H F ow e σ) (h1 : e[i]? = some p) (hσ : σ[i]? = some o) (hd : ∀ b, H b ≠ none → H' b ≠ none) (hk : ∀ b, H' b ≠ H b → ow b = some (true, i)) (hq : SlotOk fa K H' F ow i q o) :
    Gst fa K H' F ow (e.set i q) σ ∧ Evo H F ow H' F ow := by
  have same : ∀ b, ow b ≠ some (true, i) → H' b = H b := fun b n => Classical.byContradiction fun z => n (hk b z)
  refine ⟨⟨fun b u h => ?_, fun b j h => ⟨(s.own b j h).1, hd b (s.own b j h).2⟩, by rw [List.length_set, s.len], fun j r h => ?_⟩, ⟨Sub.refl, fun b u h hm => ?_, hd, fun _ h => .inl h, fun _ h => .inl h, fun _ h => .inl h⟩⟩
  · rw [same b fun z => by rw [(s.own b _ z).1] at h; cases h]; exact s.sub b u h
  · by_cases hj : i = j
    · subst hj
      have hl : i < e.length := (List.getElem?_eq_some_iff.mp h1).1
      rw [List.getElem?_set_self hl] at h
      cases h
      exact ⟨_, hσ, hq⟩
    · rw [List.getElem?_set_ne hj] at h
      obtain ⟨u, g1, g2⟩ := s.slot j r h
      refine ⟨u, g1, g2.move Sub.refl fun b k w h1 h2 h3 => ⟨h1, h2, ?_⟩⟩
      rw [same b fun z => by rw [z] at h1; cases h1; exact hj rfl]; exact h3
  · rw [same b fun z => by rw [z] at hm; cases hm]; exact h
theorem put_len {vs : List (Option V)} {fs : List (Option Mi.D)} {k : Nat} {v : V} {d : Mi.D} (h : fs.length = vs.length) : ((fs ++ List.replicate (k + 1 - fs.length) none).set k (some d)).length = (SlX.putS k v vs).length := by
  unfold SlX.putS
  simp only [List.length_set, List.length_append, List.length_replicate, h]
theorem put_get {vs : List (Option V)} {k : Nat} {v : V} {fs : List (Option Mi.D)} {d : Mi.D} (hv : Rep fa K F d v) (h : ∀ (k : Nat) (d : Mi.D), fs[k]? = some (some d) → ∃ v, vs[k]? = some (some v) ∧ Rep fa K F d v) :
    ∀ (j : Nat) (x : Mi.D), ((fs ++ List.replicate (k + 1 - fs.length) none).set k (some d))[j]? = some (some x) → ∃ v', (SlX.putS k v vs)[j]? = some (some v') ∧ Rep fa K F x v' := by
  intro j x hx
  have hlen : k < (fs ++ List.replicate (k + 1 - fs.length) (none : Option Mi.D)).length := by rw [List.length_append, List.length_replicate]; omega
  by_cases hj : k = j
  · subst hj
    rw [List.getElem?_set_self hlen] at hx
    cases hx
    exact ⟨v, SlX.putS_get _ _ _, hv⟩
  · rw [List.getElem?_set_ne hj] at hx
    have hf : fs[j]? = some (some x) := by
      by_cases hlt : j < fs.length
      · rwa [List.getElem?_append_left hlt] at hx
      · rw [List.getElem?_append_right (by omega), List.getElem?_replicate] at hx
        split at hx <;> cases hx
    obtain ⟨v', e1, e2⟩ := h j x hf
    exact ⟨v', (SlX.putS_ne (fun z => hj z.symm)).mpr e1, e2⟩
theorem sns_setA (C : Ctx lev fa xr m c sc W X) {i x : Nat} {y : Str} {a : M} {ea : Expr} {p apos pos : Pos} (hx : nmC m.N sc i y = true) (h : chkE m sc a ea = true) :
    PS X (.Assign [.Attribute (.Name y p) (m.an x) apos] ea pos) (tS fa X.K xr mine H₀ (Fx c σ₀) W (sSetA c i x a)) := by
  refine (SlX.ps_sl (C.name hx) (pe_weak (sndE a C h).1) (by cases ea <;> rfl)).imp fun D σ H ⟨F, ow, env, hd, s, g⟩ => ⟨F, ow, env, s, ?_⟩
  unfold sSetA at g
  refine (GoodS.fl hd.2 g).mono fun d e1 H1 F1 ow1 ev1 s1 g1 v hv => ?_
  have hv := hv.rep (fr := false)
  cases q : gt e1 i with
  | ob j fs =>
    rw [q] at g1
    simp only at g1
    have hi := gt_some q (by simp)
    obtain ⟨o, h1, b, C', dx, vs, rfl, r2, r3, r4, r5, r6, r7, r0, r8, rl, r9⟩ := s1.slot i _ hi
    cases hat : c.at_ j x with
    | none => rw [hat] at g1; exact (show False from g1).elim
    | some t =>
      rw [hat] at g1
      cases t with
      | fld k =>
        obtain ⟨pp, sl⟩ := C.cl.fld j x k C' hat r2
        simp only at g1
        rw [st_eq] at g1
        have hb : H1 b ≠ none := (s1.own b _ r3).2
        have same : ∀ z, z ≠ b → z ≠ dx → SlX.slH H1 b C' dx (SlX.putS k v vs) z = H1 z := fun z z1 z2 => SlX.slH_ne z1 z2
        obtain ⟨s', ev⟩ := s1.put (q := .ob j ((fs ++ List.replicate (k + 1 - fs.length) none).set k (some d))) (H' := SlX.slH H1 b C' dx (SlX.putS k v vs)) hi h1 (fun z hz => by
            by_cases z1 : z = b
            · subst z1; unfold SlX.slH; rw [upd_same]; simp
            · by_cases z2 : z = dx
              · subst z2; unfold SlX.slH; rw [upd_ne z1, upd_same]; simp
              · rw [same z z1 z2]; exact hz) (fun z hz => by
            by_cases z1 : z = b
            · subst z1; exact r3
            · by_cases z2 : z = dx
              · subst z2; exact r4
              · exact absurd (same z z1 z2) hz)
          ⟨b, C', dx, _, rfl, r2, r3, r4, r5, r6, by unfold SlX.slH; rw [upd_ne r0, upd_same]; simp, r0, SlX.slH_slt r0, put_len rl, put_get hv r9⟩
        exact ⟨_, h1, b, C', dx, pp, vs, k, rfl, r8, C.cl.cls j x _ C' hat r2, sl, g1 σ _ _ _ ev hd.2 s'⟩
      | _ => exact (show False from g1).elim
  | _ => rw [q] at g1; exact (show False from g1).elim
end
end Mi
end
section
/-! statements: several names at once -/
namespace Mi
open PySem L2 PySem.Spec
def notTup : Expr → Bool | .Tuple _ _ _ => false | _ => true
/-- how a, b = x, y is stored: by swapped stores (the names), or by way of a tuple; none: not known -/
def swapK (sc : Scope) (ts vs : List Expr) : Option (Option (List Str)) :=
  if (!(ts.length == 2 || ts.length == 3) || vs.length != ts.length) = true then some none
  else if (vs.any fun | .Starred .. => true | _ => false) = true then some none
  else
    let line := (ts.head?.map (·.pos.line)).getD 0
    let names := ts.filterMap fun
      | .Name id pos => if sc.names.lookup id == some .local && pos.line == line then some id else none
      | _ => none
    if (names.length != ts.length || names.eraseDups.length != names.length) = true then some none
    else if vs.all (foldedForSure 8) = true then some none
    else if vs.all (constantsAlone 8) = true then none
    else some (some names)
theorem swap5 {c1 c2 c3 c4 c5 : Bool} {names : List Str} {x : Sem (Option (List Str))} {r : Option (List Str)} (e : (if c1 = true then some none else if c2 = true then some none else if c3 = true then some none else if c4 = true then some none else if c5 = true then none else some (some names)) = some r) :
    (if c1 = true then (pure none : Sem (Option (List Str))) else if c2 = true then pure none else if c3 = true then pure none else if c4 = true then pure none else if c5 = true then x else pure (some names)) = pure r := by
  cases c1 <;> cases c2 <;> cases c3 <;> cases c4 <;> cases c5 <;> simp at e ⊢ <;> first | (rw [← e]; done) | (subst e; rfl) | rfl
theorem swap_eq {env : Env} {sc : Scope} (h : env.scope = sc) (hk : env.blockKind = .function) {ts vs : List Expr} {k k2 : Nat} {p p2 : Pos} {r : Option (List Str)} (e : swapK sc ts vs = some r) : swappedStores [.Tuple ts k p] (.Tuple vs k2 p2) env = pure r := by
  subst h
  unfold swapK at e
  have hb : (env.blockKind != ScopeKind.function) = false := by rw [hk]; rfl
  have hk' : ∀ x, env.kindOf x = env.scope.names.lookup x := fun _ => rfl
  unfold swappedStores
  simp only [hb, hk', Bool.or_false]
  exact swap5 e
section
variable {lev : Nat} {fa : Nat → Option Addr} {K : PySem.W.Frag} {xr : XR} {mine : Bool} {H₀ : Hp} {σ₀ : St} {m : Nm} {c : Cfg} {sc : Scope} {W : WX} {X : Cx} {H F H1 F1 : Hp} {ow ow1 : Ow} {e : En} {σ : St}
theorem sns_asgT (C : Ctx lev fa xr m c sc W X) {is : List Nat} {a : M} {et ea : Expr} {pos : Pos} (ht : tgC m.N sc (.t is) et = true) (h : chkE m sc a ea = true) (hn : notTup ea = true) : PS X (.Assign [et] ea pos) (tS fa X.K xr mine H₀ (Fx c σ₀) W (sAsgT c is a)) := by
  cases et <;> first | (simp [tgC] at ht; done) | skip
  have hsw : ∀ k p es, swapsWithSole [.Tuple es k p] ea pos.line X.env = pure false := fun k p es => by cases ea <;> rfl
  have hst : ∀ k p es, swappedStores [.Tuple es k p] ea X.env = pure none := fun k p es => by cases ea <;> first | rfl | (simp [notTup] at hn; done)
  refine (ps_asg (pe_weak (sndE a C h).1) (pg_tg C ht) (hsw _ _ _) (hst _ _ _) rfl).imp fun D σ H ⟨F, ow, env, hd, s, g⟩ => ⟨F, ow, env, s, ?_⟩
  unfold sAsgT at g
  refine (GoodS.fl hd.2 g).mono fun d e1 H1 F1 ow1 ev1 s1 g1 v hv => ?_
  split at g1
  · rename_i hok
    rw [bindTg_eq] at g1
    cases hb : bindL e1 (.t is) d with
    | none => rw [hb] at g1; exact g1.elim
    | some e' =>
      rw [hb] at g1
      exact tg_sound s1 (hv.rep (fr := false)) hb fun σ' s' hw => GoodS.nx g1 (Fx.tg hw hok hd.2) s'
  · exact g1.elim
end
end Mi
end
section
/-! a, b = x, y -/
namespace Mi
open PySem L2 PySem.Spec
section
variable {lev : Nat} {fa : Nat → Option Addr} {K : PySem.W.Frag} {xr : XR} {mine : Bool} {H₀ : Hp} {σ₀ : St} {m : Nm} {c : Cfg} {sc : Scope} {W : WX} {X : Cx} {H F H1 F1 H' F' : Hp} {ow ow1 ow' : Ow} {e : En} {σ : St}
def isLD : Mi.D → Bool | .lst _ => true | .dct _ => true | _ => false
/-- values that come one after the other; new lists among them lie apart -/
def VdL (fa : Nat → Option Addr) (K : PySem.W.Frag) (H' F' : Hp) (ow' : Ow) : Hp → List Bool → List Mi.D → List V → Prop
  | _, [], ds, vs => ds = [] ∧ vs = []
  | H, fr :: frs, ds, vs => ∃ d ds' v vs', ds = d :: ds' ∧ vs = v :: vs' ∧ Vd fa K fr H H' F' ow' d v ∧ ∃ H1, (∀ a, H a ≠ none → H1 a ≠ none) ∧ (fr = true → isLD d = true → ∀ p, v = .ref p → H1 p ≠ none) ∧ VdL fa K H' F' ow' H1 frs ds' vs'
theorem VdL.adopt {p : Addr} {i : Nat} : ∀ {frs : List Bool} {H : Hp} {ds : List Mi.D} {vs : List V}, VdL fa K H' F' ow' H frs ds vs → H p ≠ none → VdL fa K H' F' (owS ow' p i) H frs ds vs
  | [], _, _, _, h, _ => h
  | fr :: frs, H, ds, vs, ⟨d, ds', v, vs', e1, e2, hv, H1, h1, h2, h3⟩, hp => by
    refine ⟨d, ds', v, vs', e1, e2, ?_, H1, h1, h2, VdL.adopt h3 (h1 p hp)⟩
    cases fr with
    | false => exact Vd.of (hv.rep (fr := false))
    | true =>
      cases d with
      | lst xs =>
        obtain ⟨q, us, rfl, z1, z2, z3, z4, z5⟩ := hv
        refine ⟨q, us, rfl, z1, z2, z3, ?_, z5⟩
        unfold owS
        rw [if_neg (fun z => by subst z; exact hp z1)]
        exact z4
      | dct xs =>
        obtain ⟨q, us, rfl, z1, z2, z3, z4, z5⟩ := hv
        refine ⟨q, us, rfl, z1, z2, z3, ?_, z5⟩
        unfold owS
        rw [if_neg (fun z => by subst z; exact hp z1)]
        exact z4
      | _ => exact hv
theorem VdL.later {F2 H2 : Hp} {ow2 : Ow} (ev : Evo H' F' ow' H2 F2 ow2) : ∀ {frs : List Bool} {H : Hp} {ds : List Mi.D} {vs : List V}, VdL fa K H' F' ow' H frs ds vs → VdL fa K H2 F2 ow2 H frs ds vs
  | [], _, _, _, h => h
  | fr :: frs, H, ds, vs, ⟨d, ds', v, vs', e1, e2, hv, H1, h1, h2, h3⟩ => ⟨d, ds', v, vs', e1, e2, hv.later ev, H1, h1, h2, VdL.later ev h3⟩
theorem VdL.len : ∀ {frs : List Bool} {H : Hp} {ds : List Mi.D} {vs : List V}, VdL fa K H' F' ow' H frs ds vs → vs.length = frs.length
  | [], _, _, _, ⟨_, h⟩ => by rw [h]; rfl
  | fr :: frs, H, ds, vs, ⟨d, ds', v, vs', e1, e2, hv, H1, h1, h2, h3⟩ => by rw [e2, List.length_cons, List.length_cons, VdL.len h3]
def setAll (σ : St) : List Nat → List V → St
  | i :: is, v :: vs => setAll (σ.set i (some v)) is vs
  | _, _ => σ
def frsOf (c : Cfg) : List Nat → CL → List Bool
  | i :: is, x :: l => (c.mu i && x.2.1.fresh c.own) :: frsOf c is l
  | _, _ => []
theorem asg_all : ∀ {is : List Nat} {l : CL} {ds : List Mi.D} {vs : List V} {e : En} {σ : St} {Hs : Hp} {ow' : Ow}, is.length = l.length → Evo H F ow H' F' ow' → (∀ a, H a ≠ none → Hs a ≠ none) → Gst fa K H' F' ow' e σ → VdL fa K H' F' ow' Hs (frsOf c is l) ds vs →
    ∃ r, asgAll c is l ds e Fl.nx Fl.no = r ∧ (r = .no ∨ ∃ e' ow2, r = .nx e' ∧ Evo H F ow H' F' ow2 ∧ Gst fa K H' F' ow2 e' (setAll σ is vs) ∧ ∀ σ₀, Fx c σ₀ σ → Fx c σ₀ (setAll σ is vs))
  | [], [], ds, vs, e, σ, Hs, ow', _, ev, _, s, hv => by
    obtain ⟨rfl, rfl⟩ := hv
    exact ⟨.nx e, rfl, .inr ⟨e, ow', rfl, ev, s, fun _ h => h⟩⟩
  | i :: is, x :: l, ds, vs, e, σ, Hs, ow', hl, ev, hd, s, hv => by
    obtain ⟨d, ds', v, vs', rfl, rfl, h1, H1, h2, h3, h4⟩ := hv
    have eqv : asgAll c (i :: is) (x :: l) (d :: ds') e Fl.nx Fl.no = if okS c e i then asgAll c is l ds' (e.set i (keepP c i x.2.1 d)) Fl.nx Fl.no else .no := by
      show (if okS c e i then st e i (keepP c i x.2.1 d) fun e => asgAll c is l ds' e Fl.nx Fl.no else .no) = _
      rw [st_eq]
    rw [eqv]
    split
    · rename_i hok
      have up : ∀ {v : V} {r : Fl} {σ' : St}, (r = .no ∨ ∃ e' ow2, r = .nx e' ∧ Evo H F ow H' F' ow2 ∧ Gst fa K H' F' ow2 e' σ' ∧ ∀ σ₀, Fx c σ₀ (σ.set i (some v)) → Fx c σ₀ σ') → (r = .no ∨ ∃ e' ow2, r = .nx e' ∧ Evo H F ow H' F' ow2 ∧ Gst fa K H' F' ow2 e' σ' ∧ ∀ σ₀, Fx c σ₀ σ → Fx c σ₀ σ') := fun h => h.imp id fun ⟨e', ow2, a1, a2, a3, a4⟩ => ⟨e', ow2, a1, a2, a3, fun σ₀ h => a4 σ₀ (h.set hok)⟩
      unfold keepP
      have hlen : is.length = l.length := by simpa using hl
      cases hf : (c.mu i && x.2.1.fresh c.own) with
      | false =>
        rw [hf] at h1
        obtain ⟨r, hr, hb⟩ := asg_all hlen ev (fun a q => h2 a (hd a q)) (s.set (h1.rep (fr := false))) h4
        exact ⟨r, hr, up hb⟩
      | true =>
        rw [hf] at h1
        cases d with
        | lst xs =>
          obtain ⟨p, us, rfl, z1, z2, z3, z4, z5⟩ := h1
          have hp := h3 hf rfl p rfl
          obtain ⟨r, hr, hb⟩ := asg_all hlen (ev.adopt (Classical.byContradiction fun z => hd p z z1)) (fun a q => h2 a (hd a q)) (s.adopt (q := .ml xs) z3 z4 (by rw [z2]; simp) ⟨p, us, rfl, by unfold owS; rw [if_pos rfl], z3, z2, z5⟩) (h4.adopt hp)
          exact ⟨r, hr, up hb⟩
        | dct xs =>
          obtain ⟨p, us, rfl, z1, z2, z3, z4, z5⟩ := h1
          have hp := h3 hf rfl p rfl
          obtain ⟨r, hr, hb⟩ := asg_all hlen (ev.adopt (Classical.byContradiction fun z => hd p z z1)) (fun a q => h2 a (hd a q)) (s.adopt (q := .md xs) z3 z4 (by rw [z2]; simp) ⟨p, us, rfl, by unfold owS; rw [if_pos rfl], z3, z2, z5⟩) (h4.adopt hp)
          exact ⟨r, hr, up hb⟩
        | _ =>
          obtain ⟨r, hr, hb⟩ := asg_all hlen ev (fun a q => h2 a (hd a q)) (s.set h1) h4
          exact ⟨r, hr, up hb⟩
    · exact ⟨.no, rfl, .inl rfl⟩
  | [], _ :: _, _, _, _, _, _, _, hl, _, _, _, _ => by cases hl
  | _ :: _, [], _, _, _, _, _, _, hl, _, _, _, _ => by cases hl
def tAF (fa : Nat → Option Addr) (K : PySem.W.Frag) (xr : XR) (W : WX) (frs : List Bool) (l : CL) : TA := fun σ H Q => ∃ F ow e, Gst fa K H F ow e σ ∧ Good fa K xr W σ H F ow (esC l e) fun ds e' H' F' ow' => ∀ vs, VdL fa K H' F' ow' H frs ds vs → Q vs H'
theorem snp (C : Ctx lev fa xr m c sc W X) : ∀ {l : Ms} {is : List Nat} {es : List Expr}, chkEs m sc l es = true → noStar l = true → is.length = msLen l → PA X es (tAF fa X.K xr W (frsOf c is (evEs c l)) (evEs c l))
  | .nil, is, es, h, _, hl => by
    cases es with
    | cons _ _ => simp [chkEs] at h
    | nil =>
      cases is with
      | cons _ _ => simp [msLen] at hl
      | nil =>
        refine pa_nil.imp fun σ H Q ⟨F, ow, e, s, g⟩ => ?_
        exact g H F ow .refl s [] ⟨rfl, rfl⟩
  | .cons s a r, is, es, h, n, hl => by
    cases es with
    | nil => simp [chkEs] at h
    | cons e1 es =>
      cases is with
      | nil => simp [msLen] at hl
      | cons i is =>
        simp only [noStar, Bool.and_eq_true, Bool.not_eq_true'] at n
        obtain ⟨n1, n2⟩ := n
        subst n1
        rw [chkEs_cons, Bool.and_eq_true] at h
        have ha : PE X e1 (tE fa X.K xr (c.mu i && a.fresh c.own) W (evE c a)) := by
          cases q : c.mu i with
          | true => exact (sndE a C h.1).1
          | false => exact pe_weak (sndE a C h.1).1
        refine (pa_cons ha (snp C h.2 n2 (by simpa [msLen] using hl)) (chk_plain h.1 _ _)).imp fun σ H Q ⟨F, ow, e, s, g⟩ => ⟨F, ow, e, s, ?_⟩
        have g : Good fa X.K xr W σ H F ow ((evE c a e).bind fun d e => (esC (evEs c r) e).bind fun ds e => .ok (d :: ds) e) _ := g
        refine g.bind.mono fun d e1 H1 F1 ow1 ev1 s1 g1 v hv => ⟨F1, ow1, e1, s1, ?_⟩
        refine g1.bind.mono fun ds e2 H2 F2 ow2 ev2 s2 g2 vs hvs => ?_
        refine g2.ok s2 (v :: vs) ⟨d, ds, v, vs, rfl, rfl, hv.later ev2, H1, ev1.dom, fun hf hd p hp => ?_, hvs⟩
        subst hp
        rw [hf] at hv
        cases d <;> first | (cases hd; done) | skip
        all_goals
          obtain ⟨q, us, e1, z1, z2, _⟩ := hv
          cases e1
          rw [z2]; simp
theorem tgs_of : ∀ {is : List Nat} {vs : List V} {σ : St} {Q : St → Hp → Prop}, vs.length = is.length → Q (setAll σ is vs) H → tgsR is vs σ H Q
  | [], [], σ, Q, _, q => ⟨rfl, q⟩
  | i :: is, v :: vs, σ, Q, h, q => ⟨v, vs, rfl, tgs_of (by simpa using h) q⟩
  | [], _ :: _, _, _, h, _ => by cases h
  | _ :: _, [], _, _, h, _ => by cases h
/-- the end of such a statement -/
theorem pair_end {D : Ends} {l : CL} {is : List Nat} {ta : Prop} (hl : is.length = l.length) (hd : Hd H₀ (Fx c σ₀) H σ) (s : Gst fa K H F ow e σ) (g : GoodS fa K xr mine H₀ (Fx c σ₀) W D H F ow ((esC l e).fl fun ds e => asgAll c is l ds e .nx .no)) :
    Good fa K xr W σ H F ow (esC l e) fun ds e' H' F' ow' => ∀ vs, VdL fa K H' F' ow' H (frsOf c is l) ds vs → ∀ H2 F2 ow2, Evo H' F' ow' H2 F2 ow2 → Gst fa K H2 F2 ow2 e' σ → D.nx (setAll σ is vs) H2 := by
  cases q : esC l e with
  | no => rw [q] at g; exact g.elim
  | ex x e' => rw [q] at g; exact fun cls dd H' F' ow' h1 h2 h3 => g cls dd σ H' F' ow' h1 hd.2 h2 h3
  | ok ds e1 =>
    rw [q] at g
    intro H1 F1 ow1 ev1 s1 vs hv H2 F2 ow2 ev2 s2
    have g : GoodS fa K xr mine H₀ (Fx c σ₀) W D H F ow (asgAll c is l ds e1 .nx .no) := g
    obtain ⟨r, hr, hb⟩ := asg_all (c := c) hl (ev1.trans ev2) (fun a q => q) s2 (hv.later ev2)
    rw [hr] at g
    rcases hb with rfl | ⟨e', ow3, rfl, ev3, s3, hx3⟩
    · exact g.elim
    · exact g _ H2 F2 ow3 ev3 (hx3 σ₀ hd.2) s3
/-- by way of a tuple -/
theorem sns_asgP (C : Ctx lev fa xr m c sc W X) {is : List Nat} {l : Ms} {ts es : List Expr} {kt k2 : Nat} {pt p2 pos : Pos} (ht : tgC.go m.N sc is ts = true) (h : chkEs m sc l es = true) (hn : noStar l = true) (hl : is.length = msLen l) (hz : is.length ≤ 1000)
    (hst : swappedStores [.Tuple ts kt pt] (.Tuple es k2 p2) X.env = pure none) : PS X (.Assign [.Tuple ts kt pt] (.Tuple es k2 p2) pos) (tS fa X.K xr mine H₀ (Fx c σ₀) W (sAsgP c is l)) := by
  obtain ⟨t1, t2, t3⟩ := pgs_tg C ht
  refine (ps_asg (pe_tup (snp C h hn hl)) (pg_tup C.calm t1 t2 t3) rfl hst rfl).imp fun D σ H ⟨F, ow, e, hd, s, g⟩ => ⟨F, ow, e, s, ?_⟩
  unfold sAsgP at g
  refine (pair_end (ta := True) (by rw [evEs_len]; exact hl) hd s g).mono fun ds e1 H1 F1 ow1 ev1 s1 q vs hv => ?_
  have hlen : vs.length = is.length := by
    rw [hv.len]
    have : ∀ {is : List Nat} {l : CL}, is.length = l.length → (frsOf c is l).length = is.length := by
      intro is
      induction is with
      | nil => intro l _; rfl
      | cons i is ih => intro l h; cases l with | nil => cases h | cons x l => simp [frsOf, ih (by simpa using h)]
    exact this (by rw [evEs_len]; exact hl)
  refine ⟨by rw [hlen]; exact Nat.le_trans hz (by decide), fun p hp => ⟨p, vs, rfl, .inl (.inl upd_same), hlen, tgs_of hlen ?_⟩⟩
  exact q vs hv _ F1 ow1 (.laid hp s1.sub) (s1.laid hp)
end
end Mi
end
section
/-! every checked statement is sound -/
namespace Mi
open PySem L2 PySem.Spec
section
variable {lev : Nat} {fa : Nat → Option Addr} {K : PySem.W.Frag} {xr : XR} {mine : Bool} {H₀ : Hp} {σ₀ : St} {m : Nm} {c : Cfg} {sc : Scope} {W : WX} {X : Cx} {H F H1 F1 H' F' : Hp} {ow ow1 ow' : Ow} {e : En} {σ : St}
theorem VdL.two {f1 f2 : Bool} {ds : List Mi.D} {vs : List V} (h : VdL fa K H' F' ow' H [f1, f2] ds vs) : ∃ v w, vs = [v, w] := by
  obtain ⟨d, ds', v, vs', e1, e2, hv, H1, h1, h2, d2, ds2, v2, vs2, e3, e4, hv2, H2, h3, h4, e5, e6⟩ := h
  subst e6 e4 e2
  exact ⟨v, v2, rfl⟩
theorem VdL.three {f1 f2 f3 : Bool} {ds : List Mi.D} {vs : List V} (h : VdL fa K H' F' ow' H [f1, f2, f3] ds vs) : ∃ u v w, vs = [u, v, w] := by
  obtain ⟨d, ds', v, vs', e1, e2, hv, H1, h1, h2, h⟩ := h
  obtain ⟨x, y, e3⟩ := VdL.two h
  subst e3 e2
  exact ⟨v, x, y, rfl⟩
theorem sns_asgP2 (C : Ctx lev fa xr m c sc W X) {i j : Nat} {a b : M} {x y : Str} {ea eb : Expr} {px py pt p2 pos : Pos} {kt k2 : Nat} (hx : nmL m.N sc i x = true) (hy : nmL m.N sc j y = true) (hij : i ≠ j) (lx : X.env.scope.names.lookup x = some .local) (ly : X.env.scope.names.lookup y = some .local)
    (h : chkEs m sc (.cons false a (.cons false b .nil)) [ea, eb] = true) (hw : swappedStores [.Tuple [.Name x px, .Name y py] kt pt] (.Tuple [ea, eb] k2 p2) X.env = pure (some [x, y])) :
    PS X (.Assign [.Tuple [.Name x px, .Name y py] kt pt] (.Tuple [ea, eb] k2 p2) pos) (tS fa X.K xr mine H₀ (Fx c σ₀) W (sAsgP c [i, j] (.cons false a (.cons false b .nil)))) := by
  refine (ps_par C.calm (by rw [C.hN]; exact C.nd) (loc_of C hx).1 (loc_of C hy).1 hij lx ly (snp C (is := [i, j]) h rfl rfl) hw).imp fun D σ H ⟨F, ow, e, hd, s, g⟩ => ⟨F, ow, e, s, ?_⟩
  unfold sAsgP at g
  refine (pair_end (ta := True) rfl hd s g).mono fun ds e1 H1 F1 ow1 ev1 s1 q vs hv => ?_
  obtain ⟨v, w, rfl⟩ := VdL.two hv
  exact ⟨v, w, rfl, q _ hv H1 F1 ow1 .refl s1⟩
theorem sns_asgP3 (C : Ctx lev fa xr m c sc W X) {i j k : Nat} {a b d : M} {x y z : Str} {ea eb ed : Expr} {px py pz pt p2 pos : Pos} {kt k2 : Nat} (hx : nmL m.N sc i x = true) (hy : nmL m.N sc j y = true) (hz : nmL m.N sc k z = true) (hij : i ≠ j) (hik : i ≠ k) (hjk : j ≠ k)
    (lx : X.env.scope.names.lookup x = some .local) (ly : X.env.scope.names.lookup y = some .local) (lz : X.env.scope.names.lookup z = some .local)
    (h : chkEs m sc (.cons false a (.cons false b (.cons false d .nil))) [ea, eb, ed] = true) (hw : swappedStores [.Tuple [.Name x px, .Name y py, .Name z pz] kt pt] (.Tuple [ea, eb, ed] k2 p2) X.env = pure (some [x, y, z])) :
    PS X (.Assign [.Tuple [.Name x px, .Name y py, .Name z pz] kt pt] (.Tuple [ea, eb, ed] k2 p2) pos) (tS fa X.K xr mine H₀ (Fx c σ₀) W (sAsgP c [i, j, k] (.cons false a (.cons false b (.cons false d .nil))))) := by
  refine (ps_par3 C.calm (by rw [C.hN]; exact C.nd) (loc_of C hx).1 (loc_of C hy).1 (loc_of C hz).1 hij hik hjk lx ly lz (snp C (is := [i, j, k]) h rfl rfl) hw).imp fun D σ H ⟨F, ow, e, hd, s, g⟩ => ⟨F, ow, e, s, ?_⟩
  unfold sAsgP at g
  refine (pair_end (ta := True) rfl hd s g).mono fun ds e1 H1 F1 ow1 ev1 s1 q vs hv => ?_
  obtain ⟨u, v, w, rfl⟩ := VdL.three hv
  exact ⟨u, v, w, rfl, q _ hv H1 F1 ow1 .refl s1⟩
end
/-! ### the checker of statements -/
def locK (sc : Scope) (x : Str) : Bool := decide (sc.names.lookup x = some .local)
/-- how several names are stored -/
def pairC (sc : Scope) (ts es : List Expr) : Bool := match swapK sc ts es with
  | some none => true
  | some (some ns) => (match ts with
    | [.Name x _, .Name y _] => decide (ns = [x, y]) && decide (x ≠ y) && locK sc x && locK sc y
    | [.Name x _, .Name y _, .Name z _] => decide (ns = [x, y, z]) && decide (x ≠ y) && decide (x ≠ z) && decide (y ≠ z) && locK sc x && locK sc y && locK sc z
    | _ => false)
  | none => false
def isJunk : M → Bool | .bool _ .nil => true | _ => false
def isCall : Expr → Bool | .Call _ _ _ _ => true | _ => false
mutual
def chkS (m : Nm) (sc : Scope) : S → Stmt → Bool
  | .e a, s => match s with | .Expr e _ => isCall e && chkE m sc a e | _ => false
  | .asg i a, s => match s with | .Assign ts e _ => (match ts with | [.Name x _] => nmL m.N sc i x && chkE m sc a e | _ => false) | _ => false
  | .asgT is a, s => match s with | .Assign ts e _ => (match ts with | [t] => tgC m.N sc (.t is) t && notTup e && chkE m sc a e | _ => false) | _ => false
  | .asgP is as, s => match s with
    | .Assign ts e _ => (match ts, e with
      | [.Tuple ts _ _], .Tuple es _ _ => tgC.go m.N sc is ts && chkEs m sc as es && noStar as && decide (is.length = msLen as) && decide (is.length ≤ 1000) && pairC sc ts es
      | _, _ => false)
    | _ => false
  | .setI i ix a, s => match s with
    | .Assign ts e _ => (match ts with | [.Subscript (.Name x _) ex _] => nmC m.N sc i x && chkE m sc ix ex && chkE m sc a e | _ => false)
    | _ => false
  | .setA i x a, s => match s with
    | .Assign ts e _ => (match ts with | [.Attribute (.Name y _) name _] => nmC m.N sc i y && decide (name = m.an x) && chkE m sc a e | _ => false)
    | _ => false
  | .app i a, s => match s with
    | .Expr e _ => (match e with | .Call (.Attribute (.Name x _) n apos) [b] ks pos => decide (n = "append") && ks.isEmpty && nmC m.N sc i x && chkE m sc a b && (apos.endLine == pos.line) | _ => false)
    | _ => false
  | .ext _ _, _ => false
  | .ret a, s => isJunk a || (match s with | .Return (some e) _ => chkE m sc a e | _ => false)
  | .retN, s => match s with | .Return none _ => true | _ => false
  | .pass, s => match s with | .Pass _ => true | _ => false
  | .brk, s => match s with | .Break _ => true | _ => false
  | .cont, s => match s with | .Continue _ => true | _ => false
  | .ife t a b, s => match s with | .If e sa sb _ => chkE m sc t e && chkSs m sc a sa && chkSs m sc b sb | _ => false
  | .for tg it b, s => match s with | .For t e sb se _ => se.isEmpty && tgC m.N sc tg t && itTup it tg && chkI m sc it e && chkSs m sc b sb | _ => false
  | .whl t b, s => match s with | .While e sb se _ => se.isEmpty && chkE m sc t e && chkSs m sc b sb | _ => false
  | .raise _ _, _ => false
  | .doc, s => match s with | .Expr e _ => (match e with | .Constant (.str _) _ _ => true | _ => false) | _ => false
def chkSs (m : Nm) (sc : Scope) : Ss → List Stmt → Bool
  | .nil, ss => ss.isEmpty
  | .cons s r, ss => match ss with | [] => false | st :: ss => chkS m sc s st && chkSs m sc r ss
end
end Mi
end
section
/-! every checked statement is sound -/
namespace Mi
open PySem L2 PySem.Spec
section
variable {lev : Nat} {fa : Nat → Option Addr} {xr : XR} {mine : Bool} {H₀ : Hp} {σ₀ : St} {m : Nm} {c : Cfg} {sc : Scope} {W : WX} {X : Cx}
structure CtxD (lev : Nat) (fa : Nat → Option Addr) (xr : XR) (m : Nm) (c : Cfg) (mine : Bool) (sc : Scope) (W : WX) (X : Cx) : Prop extends Ctx lev fa xr m c sc W X where
  own : PassesOwn (model X.prog X.w) X.A X.env X.xe
  scope : X.env.scope = sc
  block : X.env.blockKind = .function
  mineEq : c.mine = mine
theorem sns_pair (C : CtxD lev fa xr m c mine sc W X) {is : List Nat} {l : Ms} {ts es : List Expr} {kt k2 : Nat} {pt p2 pos : Pos} (ht : tgC.go m.N sc is ts = true) (h : chkEs m sc l es = true) (hn : noStar l = true) (hl : is.length = msLen l) (hz : is.length ≤ 1000) (hp : pairC sc ts es = true) :
    PS X (.Assign [.Tuple ts kt pt] (.Tuple es k2 p2) pos) (tS fa X.K xr mine H₀ (Fx c σ₀) W (sAsgP c is l)) := by
  unfold pairC at hp
  split at hp
  · rename_i hs
    exact sns_asgP C.toCtx ht h hn hl hz (swap_eq C.scope C.block hs)
  · rename_i ns hs
    have hw := swap_eq (k := kt) (p := pt) (k2 := k2) (p2 := p2) C.scope C.block hs
    have hel := msLen_eq h
    split at hp
    · rename_i x px y py
      simp only [Bool.and_eq_true, decide_eq_true_eq, locK] at hp
      obtain ⟨⟨⟨h1, h2⟩, h3⟩, h4⟩ := hp
      subst h1
      match is, ht with
      | [i, j], ht =>
        simp only [tgC.go, Bool.and_eq_true] at ht
        obtain ⟨ht1, ht2, _⟩ := ht
        match l, es, h, hn, hl with
        | .cons s1 a (.cons s2 b .nil), [ea, eb], h, hn, hl =>
          simp only [noStar, Bool.and_eq_true, Bool.not_eq_true'] at hn
          obtain ⟨n1, n2, _⟩ := hn
          subst n1 n2
          refine sns_asgP2 C.toCtx ht1 ht2 (fun e => ?_) (by rw [C.scope]; exact h3) (by rw [C.scope]; exact h4) h hw
          subst e
          have a1 := (loc_of C.toCtx ht1).1
          have a2 := (loc_of C.toCtx ht2).1
          rw [a1] at a2
          exact h2 (Option.some.inj a2)
        | .nil, _, _, _, hl => simp [msLen] at hl
        | .cons _ _ .nil, _, _, _, hl => simp [msLen] at hl
        | .cons _ _ (.cons _ _ (.cons _ _ _)), _, _, _, hl => simp [msLen] at hl
        | .cons _ _ (.cons _ _ .nil), [], h, _, _ => simp [chkEs] at h
        | .cons _ _ (.cons _ _ .nil), [_], h, _, _ => simp [chkEs] at h
        | .cons _ _ (.cons _ _ .nil), _ :: _ :: _ :: _, h, _, _ => simp [chkEs] at h
      | [], ht => simp [tgC.go] at ht
      | [_], ht => simp [tgC.go] at ht
      | _ :: _ :: _ :: _, ht => simp [tgC.go] at ht
    · rename_i x px y py z pz
      simp only [Bool.and_eq_true, decide_eq_true_eq, locK] at hp
      obtain ⟨⟨⟨⟨⟨⟨h1, h2⟩, h2'⟩, h2''⟩, h3⟩, h4⟩, h5⟩ := hp
      subst h1
      match is, ht with
      | [i, j, k], ht =>
        simp only [tgC.go, Bool.and_eq_true] at ht
        obtain ⟨ht1, ht2, ht3, _⟩ := ht
        have ne : ∀ {i j : Nat} {x y : Str}, nmL m.N sc i x = true → nmL m.N sc j y = true → x ≠ y → i ≠ j := fun p q hne e => by
          subst e
          have a1 := (loc_of C.toCtx p).1
          have a2 := (loc_of C.toCtx q).1
          rw [a1] at a2
          exact hne (Option.some.inj a2)
        match l, es, h, hn, hl with
        | .cons s1 a (.cons s2 b (.cons s3 d .nil)), [ea, eb, ed], h, hn, hl =>
          simp only [noStar, Bool.and_eq_true, Bool.not_eq_true'] at hn
          obtain ⟨n1, n2, n3, _⟩ := hn
          subst n1 n2 n3
          exact sns_asgP3 C.toCtx ht1 ht2 ht3 (ne ht1 ht2 h2) (ne ht1 ht3 h2') (ne ht2 ht3 h2'') (by rw [C.scope]; exact h3) (by rw [C.scope]; exact h4) (by rw [C.scope]; exact h5) h hw
        | .nil, _, _, _, hl => simp [msLen] at hl
        | .cons _ _ .nil, _, _, _, hl => simp [msLen] at hl
        | .cons _ _ (.cons _ _ .nil), _, _, _, hl => simp [msLen] at hl
        | .cons _ _ (.cons _ _ (.cons _ _ (.cons _ _ _))), _, _, _, hl => simp [msLen] at hl
        | .cons _ _ (.cons _ _ (.cons _ _ .nil)), [], h, _, _ => simp [chkEs] at h
        | .cons _ _ (.cons _ _ (.cons _ _ .nil)), [_], h, _, _ => simp [chkEs] at h
        | .cons _ _ (.cons _ _ (.cons _ _ .nil)), [_, _], h, _, _ => simp [chkEs] at h
        | .cons _ _ (.cons _ _ (.cons _ _ .nil)), _ :: _ :: _ :: _ :: _, h, _, _ => simp [chkEs] at h
      | [], ht => simp [tgC.go] at ht
      | [_], ht => simp [tgC.go] at ht
      | [_, _], ht => simp [tgC.go] at ht
      | _ :: _ :: _ :: _ :: _, ht => simp [tgC.go] at ht
    · cases hp
  · cases hp
theorem chk_assign {a : M} {e : Expr} (h : chkE m sc a e = true) {o : Expr} {tpos : Pos} {env : Env} : ∀ v, assign (.Subscript o e tpos) env v = (do
      let ov ← holding [v] (eval o env)
      let iv ← holding [v, ov] (eval e env)
      standAt tpos
      holding [v, ov, iv] (setItem ov iv v)
      release [v, ov, iv] []) := by
  cases e <;> first | (intro v; rfl) | skip
  exfalso
  cases a with
  | bool b es => cases es <;> simp [chkE, junkOk] at h
  | px o as => unfold chkE at h; cases o <;> simp [pxC, bcC] at h
  | _ => simp [chkE] at h
mutual
theorem sndS (C : CtxD lev fa xr m c mine sc W X) : ∀ (s : S) {st : Stmt}, chkS m sc s st = true → PS X st (tS fa X.K xr mine H₀ (Fx c σ₀) W (evS c s))
  | .e a, st, h => by
    cases st <;> first | (simp [chkS] at h; done) | skip
    rename_i e pos
    simp only [chkS, Bool.and_eq_true] at h
    exact sns_e C.toCtx h.2 (by cases e <;> first | rfl | (simp [isCall] at h; done))
  | .asg i a, st, h => by
    cases st <;> first | (simp [chkS] at h; done) | skip
    rename_i ts e pos
    simp only [chkS] at h
    split at h
    · simp only [Bool.and_eq_true] at h
      exact sns_asg C.toCtx h.1 h.2
    · cases h
  | .asgT is a, st, h => by
    cases st <;> first | (simp [chkS] at h; done) | skip
    rename_i ts e pos
    simp only [chkS] at h
    split at h
    · simp only [Bool.and_eq_true] at h
      exact sns_asgT C.toCtx h.1.1 h.2 h.1.2
    · cases h
  | .asgP is as, st, h => by
    cases st <;> first | (simp [chkS] at h; done) | skip
    rename_i ts e pos
    simp only [chkS] at h
    split at h
    · simp only [Bool.and_eq_true, decide_eq_true_eq] at h
      obtain ⟨⟨⟨⟨⟨h1, h2⟩, h3⟩, h4⟩, h5⟩, h6⟩ := h
      exact sns_pair C h1 h2 h3 h4 h5 h6
    · cases h
  | .setI i ix a, st, h => by
    cases st <;> first | (simp [chkS] at h; done) | skip
    rename_i ts e pos
    simp only [chkS] at h
    split at h
    · simp only [Bool.and_eq_true] at h
      obtain ⟨⟨h1, h2⟩, h3⟩ := h
      refine sns_setI C.toCtx h1 h3 h2 ?_ ?_ ?_ fun _ _ _ => trivial
      · cases e <;> rfl
      · rfl
      · exact chk_assign h2
    · cases h
  | .setA i x a, st, h => by
    cases st <;> first | (simp [chkS] at h; done) | skip
    rename_i ts e pos
    simp only [chkS] at h
    split at h
    · simp only [Bool.and_eq_true, decide_eq_true_eq] at h
      obtain ⟨⟨h1, h2⟩, h3⟩ := h
      subst h2
      exact sns_setA C.toCtx h1 h3
    · cases h
  | .app i a, st, h => by
    cases st <;> first | (simp [chkS] at h; done) | skip
    rename_i e pos
    simp only [chkS] at h
    split at h
    · simp only [Bool.and_eq_true, decide_eq_true_eq, List.isEmpty_iff] at h
      obtain ⟨⟨⟨⟨h1, h2⟩, h3⟩, h4⟩, h5⟩ := h
      subst h1 h2
      exact sns_app C.toCtx h3 h4 h5
    · cases h
  | .ext _ _, st, h => by simp [chkS] at h
  | .ret a, st, h => by
    cases hj : isJunk a with
    | true =>
      have : ∃ b, a = .bool b .nil := by
        unfold isJunk at hj
        split at hj
        · exact ⟨_, rfl⟩
        · cases hj
      obtain ⟨b, rfl⟩ := this
      exact sns_junk
    | false =>
      simp only [chkS, hj, Bool.false_or] at h
      split at h
      · exact sns_ret (c := c) (sndE a C.toCtx h).1 rfl C.mineEq
      · cases h
  | .retN, st, h => by
    unfold chkS at h
    split at h
    · exact sns_ret0 C.mineEq
    · cases h
  | .pass, st, h => by
    cases st <;> first | (simp [chkS] at h; done) | exact sns_pass
  | .brk, st, h => by
    cases st <;> first | (simp [chkS] at h; done) | exact sns_brk
  | .cont, st, h => by
    cases st <;> first | (simp [chkS] at h; done) | exact sns_cont
  | .ife t a b, st, h => by
    cases st <;> first | (simp [chkS] at h; done) | skip
    simp only [chkS, Bool.and_eq_true] at h
    exact sns_if (sndE t C.toCtx h.1.1).2 (sndSs C a h.1.2) (sndSs C b h.2)
  | .for tg it b, st, h => by
    cases st <;> first | (simp [chkS] at h; done) | skip
    simp only [chkS, Bool.and_eq_true, List.isEmpty_iff] at h
    obtain ⟨⟨⟨⟨h1, h2⟩, h3⟩, h4⟩, h5⟩ := h
    subst h1
    exact sns_for Fx.tg C.own C.calm (sndI it C.toCtx h4 h3 h2) (pg_tg C.toCtx h2) (sndSs C b h5) (chkI_folded h4 _)
  | .whl t b, st, h => by
    cases st <;> first | (simp [chkS] at h; done) | skip
    simp only [chkS, Bool.and_eq_true, List.isEmpty_iff] at h
    obtain ⟨⟨h1, h2⟩, h3⟩ := h
    subst h1
    exact sns_whl C.own (sndE t C.toCtx h2).2 (sndSs C b h3)
  | .raise _ _, st, h => by simp [chkS] at h
  | .doc, st, h => by
    cases st <;> first | (simp [chkS] at h; done) | skip
    rename_i e pos
    simp only [chkS] at h
    split at h
    · exact sns_doc
    · cases h
theorem sndSs (C : CtxD lev fa xr m c mine sc W X) : ∀ (l : Ss) {ss : List Stmt}, chkSs m sc l ss = true → PSs X ss (tS fa X.K xr mine H₀ (Fx c σ₀) W (evSs c l))
  | .nil, ss, h => by
    cases ss with
    | nil => exact sns_nil
    | cons _ _ => simp [chkSs] at h
  | .cons s r, ss, h => by
    cases ss with
    | nil => simp [chkSs] at h
    | cons st ss =>
      simp only [chkSs, Bool.and_eq_true] at h
      exact sns_cons (sndS C s h.1) (sndSs C r h.2)
end
end
end Mi
end
section
/-! defaults -/
namespace Mi
open PySem L2 PySem.Spec
/-- what is not given is filled in -/
def fillD {α : Type} (s : List (Str × α)) (l : List (Str × α)) : List (Str × α) := l.foldl (fun s x => if (s.lookup x.1).isNone then s ++ [x] else s) s
theorem fillD_append {α : Type} {s l m : List (Str × α)} : fillD s (l ++ m) = fillD (fillD s l) m := List.foldl_append ..
theorem fillD_skip {α : Type} : ∀ {l s : List (Str × α)}, (∀ x ∈ l, (s.lookup x.1).isSome = true) → fillD s l = s
  | [], s, _ => rfl
  | x :: l, s, h => by
    have hx := h x List.mem_cons_self
    show fillD (if (s.lookup x.1).isNone then s ++ [x] else s) l = s
    rw [if_neg (by rw [← Option.not_isSome, hx]; simp)]
    exact fillD_skip fun y hy => h y (List.mem_cons_of_mem _ hy)
theorem lookup_append {α : Type} {k : Str} {l m : List (Str × α)} : (l ++ m).lookup k = (l.lookup k).or (m.lookup k) := by
  induction l with
  | nil => rfl
  | cons x l ih =>
    rw [List.cons_append, List.lookup_cons, List.lookup_cons]
    cases k == x.1 with
    | true => rfl
    | false => exact ih
theorem lookup_absent {α : Type} {k : Str} : ∀ {l : List (Str × α)}, k ∉ l.map (·.1) → l.lookup k = none
  | [], _ => rfl
  | x :: l, h => by
    have h1 : k ≠ x.1 := fun z => h (by rw [z]; simp)
    have hb : (k == x.1) = false := by simpa using h1
    rw [List.lookup_cons, hb]
    exact lookup_absent fun z => h (by simp at z ⊢; exact .inr z)
theorem fillD_add {α : Type} : ∀ {l s : List (Str × α)}, (l.map (·.1)).Nodup → (∀ x ∈ l, s.lookup x.1 = none) → fillD s l = s ++ l
  | [], s, _, _ => by simp [fillD]
  | x :: l, s, n, h => by
    have hx := h x List.mem_cons_self
    rw [List.map_cons, List.nodup_cons] at n
    show fillD (if (s.lookup x.1).isNone then s ++ [x] else s) l = s ++ x :: l
    rw [if_pos (by rw [hx]; rfl), fillD_add n.2 fun y hy => ?_]
    · simp
    · rw [lookup_append, h y (List.mem_cons_of_mem _ hy)]
      have : y.1 ≠ x.1 := fun z => n.1 (z ▸ List.mem_map_of_mem hy)
      have hb : (y.1 == x.1) = false := by simpa using this
      simp [List.lookup_cons, hb]
      exact this
theorem fill_loop {α : Type} {f : Str × α → List (Str × α) → Sem (ForInStep (List (Str × α)))} : ∀ (l s : List (Str × α)), (∀ x ∈ l, ∀ s, f x s = pure (ForInStep.yield (if (s.lookup x.1).isNone then s ++ [x] else s))) → forIn l s f = pure (fillD s l)
  | [], s, _ => by simp [fillD]
  | x :: l, s, h => by
    rw [List.forIn_cons, h x (by simp) s]
    simp only [pure_bind]
    rw [fill_loop l _ fun y hy => h y (by simp [hy])]
    rfl
/-- parameters ps, all by place or name -/
structure PBd (fd : FuncData) (ps : List Str) : Prop where
  po : fd.params.posonlyargs = []
  ar : fd.params.args.map (·.arg) = ps
  va : fd.params.vararg = none
  ko : fd.params.kwonlyargs = []
  kw : fd.params.kwarg = none
theorem dflt_bind {fd : FuncData} {P : List Str} {us ws : List Value} {kws : List (Str × Value)} {its : List Value} (b : PBd fd P) (hL : its.length ≤ P.length)
   (hl : us.length ≤ P.length) (hin : ∀ k ∈ kws, k.1 ∈ P) (hfr : ∀ k ∈ kws, (P.zip us).lookup k.1 = none) (nd : (kws.map (·.1)).Nodup) (hm : ∀ x ∈ P.take (P.length - its.length), ((P.zip us ++ kws).lookup x).isSome = true)
   (hat : AllAt (fillD (P.zip us ++ kws) ((P.drop (P.length - its.length)).zip its)) P ws) : ∃ k, bindArgs fd ⟨us, kws⟩ = seqItems? fd.defaults >>= k ∧ ∀ o : Option (Array Value), (o.getD #[]).toList = its → k o = pure (P.zip ws) := by
  unfold bindArgs
  simp only [b.po, b.ar, b.va, b.ko, b.kw, List.map_nil, List.nil_append, List.append_nil]
  rw [kw_loop kws (P.zip us) hfr nd]
  · simp only [pure_bind]
    refine ⟨_, rfl, fun o ho => ?_⟩
    have h1 : decide (us.length > P.length) = false := by simpa using hl
    have h2 : (its.drop (its.length - P.length)) = its := by rw [Nat.sub_eq_zero_of_le hL]; rfl
    have h3 : ((P.take (P.length - its.length)).filter fun n => ((P.zip us ++ kws).lookup n).isNone) = [] := by
      rw [List.filter_eq_nil_iff]
      intro x hx
      have := hm x hx
      simp [← Option.not_isSome, this]
    simp only [ho, h1, h2, h3, Bool.false_and, Bool.false_eq_true, if_false, List.isEmpty_nil, Bool.not_true, pure_bind]
    rw [fill_loop]
    · simp [hat.binds]
    · intro x hx s
      split <;> simp [*]
  · intro x hx s hs
    have : P.contains x.1 = true := by simpa using hin x hx
    have hmm : x.1 ∈ P := hin x hx
    simp [this, hs, hx]
    exact fun h => absurd hmm h
theorem AllAt.lift {α : Type} {l t r : List (Str × α)} : ∀ {ps : List Str} {ws : List α}, AllAt t ps ws → (∀ p ∈ ps, l.lookup p = none) → AllAt (l ++ (t ++ r)) ps ws
  | _, _, .nil, _ => .nil
  | p :: _, _, .cons h q, d => .cons (by rw [lookup_append_none (d p (by simp)), lookup_append, h]; rfl) (AllAt.lift q fun x hx => d x (by simp [hx]))
theorem AllAt.append {α : Type} {t : List (Str × α)} : ∀ {ps : List Str} {ws : List α} {qs : List Str} {zs : List α}, AllAt t ps ws → AllAt t qs zs → AllAt t (ps ++ qs) (ws ++ zs)
  | _, _, _, _, .nil, h => h
  | _, _, _, _, .cons a b, h => .cons a (AllAt.append b h)
theorem AllAt.mem {α : Type} {t : List (Str × α)} : ∀ {ps : List Str} {ws : List α}, AllAt t ps ws → ∀ p ∈ ps, (t.lookup p).isSome = true
  | _, _, .cons h q, p, hp => by
    rcases List.mem_cons.mp hp with e | e
    · rw [e, h]; rfl
    · exact AllAt.mem q p e
theorem AllAt.len {α : Type} {t : List (Str × α)} : ∀ {ps : List Str} {ws : List α}, AllAt t ps ws → ps.length = ws.length
  | _, _, .nil => rfl
  | _, _, .cons _ q => by simp [AllAt.len q]
theorem lookup_there {α : Type} {p : Str} : ∀ {l : List (Str × α)}, p ∈ l.map (·.1) → (l.lookup p).isSome = true
  | [], h => by cases h
  | x :: l, h => by
    rw [List.lookup_cons]
    by_cases e : p = x.1
    · subst e; simp
    · have eb : (p == x.1) = false := by simpa using e
      rw [eb]
      exact lookup_there (by rw [List.map_cons, List.mem_cons] at h; exact h.resolve_left e)
theorem zip_cut {α : Type} {a b : List Str} {its : List α} {n : Nat} (h1 : a.length = n) (h2 : n ≤ its.length) : (a ++ b).zip its = a.zip (its.take n) ++ b.zip (its.drop n) := by
  conv => lhs; rw [← List.take_append_drop n its]
  exact List.zip_append (by rw [h1, List.length_take, Nat.min_eq_left h2])
theorem zip_short {α : Type} : ∀ {ps : List Str} {qs : List Str} {us : List α}, us.length ≤ ps.length → (ps ++ qs).zip us = ps.zip us
  | _, _, [], _ => by simp
  | [], _, u :: us, h => by simp at h
  | p :: ps, qs, u :: us, h => by
    rw [List.cons_append, List.zip_cons_cons, List.zip_cons_cons, zip_short (by simpa using h)]
theorem fst_zip_sub {α : Type} {ps : List Str} {us : List α} {x : Str} (h : x ∈ (ps.zip us).map (·.1)) : x ∈ ps := by
  obtain ⟨y, hy, rfl⟩ := List.mem_map.mp h
  exact (List.of_mem_zip hy).1
theorem lookup_self {α : Type} {p : Str} {v : α} {r : List (Str × α)} : ((p, v) :: r).lookup p = some v := by simp [List.lookup_cons]
/-- what is handed in, ahead of it pre, behind it the defaults -/
theorem goes_dflt {fd : FuncData} {P psj post : List Str} {pre : List (Str × Value)} {us ws its : List Value} {kws : List (Str × Value)} (b : PBd fd P) (hP : P = pre.map (·.1) ++ (psj ++ post)) (nd : P.Nodup) (hL : its.length ≤ P.length) (hpost : post.length ≤ its.length) (g : Goes psj us kws ws) :
    ∃ k, bindArgs fd ⟨pre.map (·.2) ++ us, kws⟩ = seqItems? fd.defaults >>= k ∧ ∀ o : Option (Array Value), (o.getD #[]).toList = its → k o = pure (P.zip (pre.map (·.2) ++ (ws ++ its.drop (its.length - post.length)))) := by
  have ndP := nd
  rw [hP, List.nodup_append] at nd
  obtain ⟨nd1, nd2, nd3⟩ := nd
  rw [List.nodup_append] at nd2
  obtain ⟨nd4, nd5, nd6⟩ := nd2
  have hpl : P.length = pre.length + (psj.length + post.length) := by rw [hP]; simp
  have zp : ∀ l : List (Str × Value), (l.map (·.1)).zip (l.map (·.2)) = l := fun l => by
    induction l with
    | nil => rfl
    | cons x l ih => rw [List.map_cons, List.map_cons, List.zip_cons_cons, ih]
  have hz : P.zip (pre.map (·.2) ++ us) = pre ++ psj.zip us := by
    rw [hP, List.zip_append (by simp), zip_short g.len, zp]
  have hpj : ∀ p ∈ psj, pre.lookup p = none := fun p hp => lookup_absent fun z => nd3 p z p (by simp [hp]) rfl
  have hpo : ∀ p ∈ post, (pre ++ (psj.zip us ++ kws)).lookup p = none := fun p hp => by
    rw [lookup_append, lookup_append, lookup_absent fun z => nd3 p z p (by simp [hp]) rfl, lookup_absent fun z => nd6 p (fst_zip_sub z) p hp rfl, lookup_absent fun z => ?_]
    · rfl
    · obtain ⟨y, hy, e⟩ := List.mem_map.mp z
      exact nd6 y.1 (g.known y hy) p hp e
  have hall : ∀ p ∈ pre.map (·.1) ++ psj, ((pre ++ (psj.zip us ++ kws)).lookup p).isSome = true := fun p hp => by
    rcases List.mem_append.mp hp with h | h
    · rw [lookup_append]
      have : (pre.lookup p).isSome = true := lookup_there h
      cases q : pre.lookup p with
      | none => rw [q] at this; cases this
      | some _ => rfl
    · rw [lookup_append, hpj p h]
      exact g.at_.mem p h
  have hcut : P.length - its.length ≤ (pre.map (·.1) ++ psj).length := by rw [List.length_append, List.length_map]; omega
  have hPa : P = (pre.map (·.1) ++ psj) ++ post := by rw [hP, List.append_assoc]
  have hdrop : P.drop (P.length - its.length) = (pre.map (·.1) ++ psj).drop (P.length - its.length) ++ post := by
    rw [hPa, List.drop_append_of_le_length (by rw [← hPa]; exact hcut)]
  have hlen2 : ((pre.map (·.1) ++ psj).drop (P.length - its.length)).length = its.length - post.length := by
    rw [List.length_drop, List.length_append, List.length_map]; omega
  have hits : its = its.take (its.length - post.length) ++ its.drop (its.length - post.length) := (List.take_append_drop _ _).symm
  have hzz : (P.drop (P.length - its.length)).zip its = ((pre.map (·.1) ++ psj).drop (P.length - its.length)).zip (its.take (its.length - post.length)) ++ post.zip (its.drop (its.length - post.length)) := by
    rw [hdrop]
    exact zip_cut hlen2 (Nat.sub_le _ _)
  have hlp : post.length = (its.drop (its.length - post.length)).length := by rw [List.length_drop]; omega
  have hfill : fillD (pre ++ (psj.zip us ++ kws)) ((P.drop (P.length - its.length)).zip its) = pre ++ ((psj.zip us ++ kws) ++ post.zip (its.drop (its.length - post.length))) := by
    have e1 : fillD (pre ++ (psj.zip us ++ kws)) (((pre.map (·.1) ++ psj).drop (P.length - its.length)).zip (its.take (its.length - post.length))) = pre ++ (psj.zip us ++ kws) := fillD_skip fun x hx => hall x.1 (List.mem_of_mem_drop (List.of_mem_zip hx).1)
    rw [hzz, fillD_append, e1, fillD_add, List.append_assoc]
    · rw [List.map_fst_zip (by omega)]; exact nd5
    · intro x hx
      exact hpo x.1 (List.of_mem_zip hx).1
  refine dflt_bind b hL ?_ ?_ ?_ g.nd ?_ ?_
  · rw [List.length_append, List.length_map, hpl]; have := g.len; omega
  · intro k hk; rw [hP]; simp [g.known k hk]
  · intro k hk
    rw [hz, lookup_append, hpj _ (g.known k hk), g.fresh k hk]
    rfl
  · intro x hx
    rw [hz, List.append_assoc]
    refine hall x ?_
    rw [hPa, List.take_append_of_le_length (by rw [← hPa]; exact hcut)] at hx
    exact List.mem_of_mem_take hx
  · rw [hz, List.append_assoc, hfill]
    conv => lhs; rw [hP]
    refine AllAt.append ?_ (AllAt.append (g.at_.lift hpj) ?_)
    · have := AllAt.self (ps := pre.map (·.1)) (us := pre.map (·.2)) (t := []) nd1 (by simp) fun _ _ => rfl
      rw [List.nil_append, zp] at this
      have h2 := AllAt.lift (l := []) (r := (psj.zip us ++ kws) ++ post.zip (its.drop (its.length - post.length))) this fun _ _ => rfl
      exact h2
    · have := AllAt.self (ps := post) (us := its.drop (its.length - post.length)) (t := pre ++ (psj.zip us ++ kws)) nd5 hlp hpo
      rw [List.append_assoc, List.append_assoc] at this
      rw [List.append_assoc]
      exact this
end Mi
end
section
/-! objects are made -/
namespace Mi
open PySem L2 PySem.Spec
section
variable {lev : Nat} {fa : Nat → Option Addr} {xr : XR} {K : PySem.W.Frag} {F H F1 H1 : Hp} {ow ow1 : Ow} {σ : L2.St}
theorem allSet_get : ∀ {fs : List (Option D)} {ds : List D}, allSet fs = some ds → fs = ds.map some
  | [], ds, h => by cases h; rfl
  | some d :: r, ds, h => by
    simp only [allSet] at h
    obtain ⟨x, h1, h2⟩ := Option.map_eq_some_iff.mp h
    subst h2
    rw [allSet_get h1]; rfl
  | none :: r, ds, h => by cases h
theorem repL_of : ∀ {ds : List D} {vs : List (Option V)}, ds.length = vs.length → (∀ (k : Nat) (d : D), ds[k]? = some d → ∃ v, vs[k]? = some (some v) ∧ Rep fa K F d v) → ∃ us, vs = us.map some ∧ RepL fa K F ds us
  | [], [], _, _ => ⟨[], rfl, .nil⟩
  | d :: ds, o :: vs, hl, h => by
    obtain ⟨v, h1, h2⟩ := h 0 d rfl
    cases h1
    obtain ⟨us, e, r⟩ := repL_of (ds := ds) (vs := vs) (by simpa using hl) fun k x hx => h (k + 1) x hx
    exact ⟨v :: us, by rw [e]; rfl, .cons h2 r⟩
  | [], _ :: _, hl, _ => by cases hl
  | _ :: _, [], hl, _ => by cases hl
def owI (x dx : Addr) : Ow := fun a => open Classical in if a = x ∨ a = dx then some (true, 0) else none
theorem owI_some {x dx a : Addr} {z : Bool × Nat} (h : owI x dx a = some z) : (a = x ∨ a = dx) ∧ z = (true, 0) := by
  unfold owI at h
  split at h
  · rename_i q; cases h; exact ⟨q, rfl⟩
  · cases h
theorem isVal_slot {i : Nat} {p : P} {o : Option V} (hp : isVal p = true) (s : SlotOk fa K H F ow i p o) : SlotOk fa K H1 F ow1 i p o := by
  cases p with
  | val d => exact s
  | _ => cases hp
/-- what an object's maker promises: from what its __init__ promises -/
theorem make_sp {c c0 : Cfg} {j i0 np : Nat} {t : Nat × Nat × List D} {C : Addr} {vs dvs : List V} {Q : VK} {E : XK} (hcf : ∀ ps, c.cf j ps = runC c0.cf t ps) (ht : t.2.1 = i0) (hC : fa t.1 = some C) (hall : ∀ F, RepL fa K F t.2.2 dvs)
    (h : spF fa K xr c j np vs H Q E) {x dx : Addr} (hx : H x = none) (hdx : H dx = none) (hne : dx ≠ x) :
    spF fa K xr c0 i0 (np + t.2.2.length + 1) (.ref x :: (vs ++ dvs)) (upd (upd H dx (.own x)) x (.ins C dx [])) (fun v H2 => v = .non ∧ Q (.ref x) H2) E := by
  obtain ⟨F, ow, ps, hnp, g, h⟩ := h
  rw [hcf] at h
  unfold runC at h
  by_cases hv : ps.all isVal = true
  · rw [if_pos hv] at h
    have hFx : F x = none := g.sub.noneOf hx
    have hFd : F dx = none := g.sub.noneOf hdx
    have old : ∀ b, H b ≠ none → b ≠ x ∧ b ≠ dx := fun b hb => ⟨fun e => hb (e ▸ hx), fun e => hb (e ▸ hdx)⟩
    have keep : ∀ b u, H b = some u → upd (upd H dx (.own x)) x (.ins C dx []) b = some u := fun b u hb => by
      obtain ⟨n1, n2⟩ := old b (by rw [hb]; simp)
      rw [upd_ne n1, upd_ne n2]; exact hb
    have new : ∀ b, upd (upd H dx (.own x)) x (.ins C dx []) b = none → H b = none := fun b hb => by
      cases q : H b with
      | none => rfl
      | some u => rw [keep b u q] at hb; cases hb
    have start : Gst fa K (upd (upd H dx (.own x)) x (.ins C dx [])) F (owI x dx) (.ob t.1 [] :: (ps ++ vals t.2.2)) ((V.ref x :: (vs ++ dvs)).map some) := by
      refine ⟨fun b u hb => keep b u (g.sub b u hb), fun a z hz => ?_, ?_, fun k p hk => ?_⟩
      · obtain ⟨e, rfl⟩ := owI_some hz
        rcases e with rfl | rfl
        · exact ⟨hFx, by rw [upd_same]; simp⟩
        · exact ⟨hFd, by rw [upd_ne hne, upd_same]; simp⟩
      · have := g.len
        rw [List.length_map] at this
        simp [vals_eq, this, (hall F).length]
      · cases k with
        | zero =>
          cases hk
          exact ⟨_, rfl, x, C, dx, [], rfl, hC, by unfold owI; simp, by unfold owI; simp, hFx, hFd, by rw [upd_ne hne, upd_same]; simp, hne, .inl ⟨upd_same, rfl⟩, rfl, fun k d hk => by simp at hk⟩
        | succ k =>
          have hk : (ps ++ vals t.2.2)[k]? = some p := hk
          have hl : ps.length = vs.length := by have := g.len; rwa [List.length_map] at this
          by_cases hlt : k < ps.length
          · rw [List.getElem?_append_left hlt] at hk
            obtain ⟨o, o1, o2⟩ := g.slot k p hk
            refine ⟨o, ?_, ?_⟩
            · show ((vs ++ dvs).map some)[k]? = some o
              rw [List.map_append, List.getElem?_append_left (by rw [List.length_map, ← hl]; exact hlt)]
              exact o1
            · have hp := List.all_eq_true.mp hv p (List.mem_of_getElem? hk)
              cases p with
              | val d => exact o2
              | _ => cases hp
          · rw [List.getElem?_append_right (Nat.le_of_not_lt hlt), vals_eq, List.getElem?_map] at hk
            cases hq : t.2.2[k - ps.length]? with
            | none => rw [hq] at hk; cases hk
            | some d =>
              rw [hq] at hk
              cases hk
              obtain ⟨u, hu, ru⟩ := (hall F).get hq
              refine ⟨some u, ?_, u, rfl, ru⟩
              show ((vs ++ dvs).map some)[k]? = some (some u)
              rw [List.map_append, List.getElem?_append_right (by rw [List.length_map, ← hl]; omega), List.length_map, ← hl, List.getElem?_map, hu]
              rfl
    refine ⟨F, owI x dx, _, ?_, start, ?_⟩
    · rw [List.length_cons, List.length_append, hnp, vals_eq, List.length_map]
    · rw [ht] at h
      have evo : ∀ {H' F' : Hp} {ow' : Ow}, Evo (upd (upd H dx (.own x)) x (.ins C dx [])) F (owI x dx) H' F' ow' → ∀ F'', Sub F' F'' → (∀ a, F'' a ≠ none → F' a ≠ none ∨ H a = none) → Evo H F ow H' F'' (owB F'' ow) := fun {H' F' ow'} ev F'' sb hn => by
        refine ⟨ev.mono.trans sb, fun a u q m => ?_, fun a q => ?_, fun a q => ?_, fun a q => ?_, fun a q => ?_⟩
        · obtain ⟨n1, n2⟩ := old a (by rw [q]; simp)
          exact ev.keep a u (keep a u q) (by unfold owI; rw [if_neg (by rintro (z | z); exact n1 z; exact n2 z)]; rfl)
        · cases z : H a with
          | none => exact absurd z q
          | some u => exact ev.dom a (by rw [keep a u z]; simp)
        · rcases hn a q with z | z
          · rcases ev.newF a z with y | y | y
            · exact .inl y
            · cases w : owI x dx a with
              | none => exact absurd w y
              | some z => rcases (owI_some w).1 with rfl | rfl; exact .inr (.inr hx); exact .inr (.inr hdx)
            · exact .inr (.inr (new a y))
          · exact .inr (.inr z)
        · cases z : owB F'' ow a with
          | none => exact absurd z q
          | some w => exact .inl (by rw [(owB_some z).2]; simp)
        · cases z : owB F'' ow a with
          | none => rw [z] at q; cases q
          | some w => rw [z] at q; exact .inl (by rw [(owB_some z).2]; exact q)
      have how' : ∀ {H' F' : Hp} {ow' : Ow} {F'' : Hp}, Evo (upd (upd H dx (.own x)) x (.ins C dx [])) F (owI x dx) H' F' ow' → ∀ a z, owB F'' ow a = some z → F'' a = none ∧ H' a ≠ none := fun {H' F' ow' F''} ev a z hz => by
        obtain ⟨z1, z2⟩ := owB_some hz
        refine ⟨z1, ev.dom a ?_⟩
        cases w : H a with
        | none => exact absurd w (g.own a z z2).2
        | some u => rw [keep a u w]; simp
      have noml : ∀ k (v : V), isMl (gt ps k) = true → False := fun k v hm => by
        rw [get_gt] at hm
        cases q : ps[k]? with
        | none => rw [q] at hm; cases hm
        | some p =>
          rw [q] at hm
          have hp := List.all_eq_true.mp hv p (List.mem_of_getElem? q)
          cases p with
          | val d => cases hm
          | _ => cases hp
      cases hr : c0.cf i0 (.ob t.1 [] :: (ps ++ vals t.2.2)) with
      | no => rw [hr] at h; exact (show False from h).elim
      | ex y ps' =>
        rw [hr] at h
        intro cls dd H' F' ow' ev sb how hsl hxr
        exact h cls dd H' F' (owB F' ow) (evo ev F' Sub.refl fun a q => .inl q) sb (how' ev) (fun k v hm _ => (noml k v hm).elim) hxr
      | ok d ps' =>
        rw [hr] at h
        intro v H' F' ow' ev sb how hsl hvd
        simp only at h
        cases d with
        | non =>
          have hvn : v = .non := by
            have r : Rep fa K F' .non v := by revert hvd; cases c0.own i0 <;> exact fun h => h
            cases r; rfl
          refine ⟨hvn, ?_⟩
          cases hm : madeOf t.1 (gt ps' 0) with
          | none => rw [hm] at h; exact (show False from h).elim
          | some o =>
            rw [hm] at h
            have hs0 := hsl 0 (.ref x) rfl rfl
            cases hp : gt ps' 0 with
            | ob jc fs =>
              rw [hp] at hm hs0
              cases fs with
              | nil => cases hm
              | cons f fs =>
                simp only [madeOf] at hm
                split at hm
                · rename_i hjc
                  obtain ⟨ds, hds, e⟩ := Option.map_eq_some_iff.mp hm
                  subst e hjc
                  obtain ⟨b, C', dx', vs', e1, e2, e3, e4, e5, e6, e7, e8, e9, e10, e11⟩ := hs0
                  cases e1
                  have hfs := allSet_get hds
                  have hdl : ds.length = vs'.length := by rw [← e10, hfs, List.length_map]
                  obtain ⟨us, hus, rus⟩ := repL_of (fa := fa) (K := K) (F := F') hdl fun k d hk => e11 k d (by rw [hfs, List.getElem?_map, hk]; rfl)
                  have hsl2 : H' x = some (SlX.SlO x C' dx' vs') ∧ H' dx' = some (.xd []) := by
                    rcases e9 with ⟨_, z⟩ | z
                    · rw [z] at e10; cases e10
                    · exact z
                  have hdx' : H dx' = none := by
                    rcases ev.newO dx' (by rw [e4]; simp) with z | z
                    · cases w : owI x dx dx' with
                      | none => exact absurd w z
                      | some y => rcases (owI_some w).1 with rfl | rfl; exact hx; exact hdx
                    · exact new _ z
                  have mono : Sub F' (upd (upd F' dx' (.xd [])) x (SlX.SlO x C' dx' vs')) := fun b u hb => by
                    have n1 : b ≠ x := fun z => by rw [z, e5] at hb; cases hb
                    have n2 : b ≠ dx' := fun z => by rw [z, e6] at hb; cases hb
                    rw [upd_ne n1, upd_ne n2]; exact hb
                  refine h (.ref x) H' _ (owB _ ow) (evo ev _ mono fun a q => ?_) (fun b u hb => ?_) (how' ev) (fun k v hm _ => (noml k v hm).elim) ?_
                  · by_cases n1 : a = x
                    · exact .inr (n1 ▸ hx)
                    · rw [upd_ne n1] at q
                      by_cases n2 : a = dx'
                      · exact .inr (n2 ▸ hdx')
                      · rw [upd_ne n2] at q; exact .inl q
                  · by_cases n1 : b = x
                    · subst n1; rw [upd_same] at hb; cases hb; exact hsl2.1
                    · rw [upd_ne n1] at hb
                      by_cases n2 : b = dx'
                      · subst n2; rw [upd_same] at hb; cases hb; exact hsl2.2
                      · rw [upd_ne n2] at hb; exact sb b u hb
                  · have r : Rep fa K (upd (upd F' dx' (.xd [])) x (SlX.SlO x C' dx' vs')) (.obj t.1 ds) (.ref x) := by
                      refine .obj (vs := us) e2 (by rw [upd_same, hus]) (by rw [upd_ne e8, upd_same]) (rus.mono mono)
                    cases c.own j <;> exact r
                · cases hm
            | _ => rw [hp] at hm; cases hm
        | _ => exact (show False from h).elim
  · rw [if_neg hv] at h
    exact (show False from h).elim
end
/-- the binding, at a heap that keeps the top -/
theorem binds_dflt {K : PySem.W.Frag} {fd : FuncData} {P psj post : List Str} {pre : List (Str × Value)} {us ws : List Value} {kws : List (Str × Value)} {dvs : List V} {s : Shared} (X : K.In s.heap) (hD : DflV K fd.defaults dvs) (b : PBd fd P) (hP : P = pre.map (·.1) ++ (psj ++ post)) (nd : P.Nodup) (hL : dvs.length ≤ P.length) (hpost : post.length ≤ dvs.length) (g : Goes psj us kws ws) :
    ∃ ds, Vals (dvs.drop (dvs.length - post.length)) ds ∧ BindsTo s fd ⟨pre.map (·.2) ++ us, kws⟩ (P.zip (pre.map (·.2) ++ (ws ++ ds))) := by
  rcases hD with ⟨rfl, e⟩ | ⟨_, T, o, its, n, e, lT, oT, rT⟩
  · obtain ⟨k, e1, e2⟩ := goes_dflt (its := []) b hP nd (Nat.zero_le _) hpost g
    refine ⟨[], by rw [List.drop_nil]; exact .nil, .of_eq ?_⟩
    rw [e1, e]
    have := e2 none rfl
    simp only [List.drop_nil] at this
    show (pure none >>= k) = _
    rw [pure_bind]
    exact this
  · have hl : dvs.length = its.length := rT.length
    obtain ⟨k, e1, e2⟩ := goes_dflt (its := its) b hP nd (by rw [← hl]; exact hL) (by rw [← hl]; exact hpost) g
    refine ⟨its.drop (its.length - post.length), by rw [hl]; exact rT.drop _, BindsTo.of_looks fun M => ?_⟩
    rw [e1, e]
    exact looks_items X lT oT (.of_pure (e2 (some its.toArray) (by simp)))
theorem Callee.of_mk {bn : Bool} {P : Program} {w : World} {K : PySem.W.Frag} {mg : Str → Option Value} {base : Heap} {lev : Nat} {a f : Addr} {fd : FuncData} {PP psj post : List Str} {p0 : Str} {sp sp0 : Sp} {dvs : List V} (M : Mk K a f) (F : FnOk P w K mg base (L2.CX P w) lev f fd PP sp0) (b : PBd fd PP) (hP : PP = p0 :: (psj ++ post)) (nd : PP.Nodup)
    (hD : DflV K fd.defaults dvs) (hL : dvs.length ≤ PP.length) (hpost : post.length ≤ dvs.length)
    (hsp : ∀ vs H Q E, sp vs H Q E → ∀ x dx, H x = none → H dx = none → dx ≠ x → sp0 (.ref x :: (vs ++ dvs.drop (dvs.length - post.length))) (upd (upd H dx (.own x)) x (.ins a dx [])) (fun v H2 => v = .non ∧ Q (.ref x) H2) E) : Callee P w K mg base lev a psj bn sp := by
  refine ⟨M.kp, ?_⟩
  intro X W pins σ H s Q us ws vs kws h1 h2 h3 h4 h5 hr tk I r g _ h
  subst h1 h2 h3 h4 h5
  have hq := hsp vs H Q (WE W σ) h (s.heap.objs.size + 1) s.heap.objs.size (I.hok.fresh (Nat.le_succ _)) (I.hok.fresh (Nat.le_refl _)) (Nat.ne_of_lt (Nat.lt_succ_self _))
  have I2 := Inv.made (C := a) I
  obtain ⟨ds, rd, hb⟩ := binds_dflt (pre := [(p0, Value.ref (s.heap.objs.size + 1))]) I2.kIn hD b (by rw [hP]; rfl) nd hL hpost g
  have r2 : Vals (V.ref (s.heap.objs.size + 1) :: (vs ++ dvs.drop (dvs.length - post.length))) (Value.ref (s.heap.objs.size + 1) :: (ws ++ ds)) := .cons rfl (r.append rd)
  refine wpAny_call (make_map (f := f) I.kIn M.makes M.init (beq_iff_eq.mp M.fn) (codeAny_mono (F.run _ X.stack _ _ ⟨Value.ref (s.heap.objs.size + 1) :: us, kws⟩ _ _ _ (WE W σ) (hr.make a us kws) (I2.env0.make a us kws) hb r2 hq) fun y s' hq' => ?_))
  cases y with
  | error e => exact passAt tk σ pins _ _ e s' I2 hq'
  | ok fl =>
    cases fl with
    | ret u =>
      obtain ⟨v, H', I3, rv, ev, q3⟩ := I2.after hq'
      subst ev
      exact ⟨rv, ⟨V.ref (s.heap.objs.size + 1), H', I3, rfl, q3⟩⟩
    | next => exact False.elim hq'
    | brk => exact False.elim hq'
    | cont => exact False.elim hq'
end Mi
end
section
/-! defs keep their promises -/
namespace Mi
open PySem L2 PySem.Spec
/-- the tables of a program: the small language's program, the module's names, the defs' parameters, the names of what classes have, what is called without its defaults, what may be called by names -/
structure Tab where
  p : Pg
  G : GT
  ps : Nat → List Str
  an : Nat → Str
  alt : Nat → Option Nat
  byN : Nat → Bool
/-- a def's names, its text -/
structure Df where
  N : List Str
  qual : Str
  st : Stmt
def Tab.nm (T : Tab) (N : List Str) : Nm := ⟨T.G, N, T.ps, T.an, T.alt, T.byN⟩
/-- parameters by place or name, no others -/
def argsC (a : Arguments) (P : List Str) : Bool := match a with
  | ⟨[], l, none, [], [], none, _⟩ => decide (l.map (·.arg) = P) && strNodup P
  | _ => false
/-- what is to be checked of a def -/
def defC (T : Tab) (f : Nat) (d : Df) : Bool := match T.p.fn f with
  | none => false
  | some fn => decide (fn.n = d.N.length) && decide (fn.np = (T.ps f).length) && decide ((T.ps f).length ≤ d.N.length) && argsC (defArgs d.st) (T.ps f) && chkSs (T.nm d.N) (defScope d.st) fn.body (defBody d.st)
section
variable (T : Tab) (fa : Nat → Option Addr) (xr : XR) (P : Program) (w : World) (K : PySem.W.Frag) (mg : Str → Option Value) (base : Heap)
noncomputable def cfg0 (n : Nat) : Cfg := T.p.cfg (T.p.run n) ⟨0, 0, [], false, false, .nil⟩ []
/-- the def i stands at g, with these defaults -/
def FnAt (i : Nat) (dvs : List V) (g : Addr) (fd : FuncData) : Prop := T.p.ct i = none ∧ ∃ (x : Str) (d : Df), FunD K x d.qual (defArgs d.st) (defBody d.st) (defScope d.st) dvs [] g fd ∧ FnScope d.N (T.ps i) (defScope d.st) ∧ defC T i d = true
/-- i makes objects of the class at a -/
def MkAt (i : Nat) (a : Addr) : Prop := ∃ (t : Nat × Nat × List D) (f : Addr) (fd : FuncData) (dvs : List V) (p0 : Str) (post : List Str), T.p.ct i = some t ∧ fa t.1 = some a ∧ Mk K a f ∧ FnAt T K t.2.1 dvs f fd ∧ T.ps t.2.1 = p0 :: (T.ps i ++ post) ∧ dvs.length ≤ (T.ps t.2.1).length ∧ post.length ≤ dvs.length ∧
  (∀ F, RepL fa K F t.2.2 (dvs.drop (dvs.length - post.length))) ∧ (T.ps i).Nodup
/-- the module -/
structure Md : Prop where
  bu : ∀ x, gk T.G x = some .bu → mg x = none
  con : ∀ x i, gk T.G x = some (.con i) → ∃ u v d, mg x = some u ∧ RelV v u ∧ T.p.gl i = some d ∧ ∀ F, Rep fa K F d v
  fn : ∀ x i, gk T.G x = some (.fn i) → ∃ a, mg x = some (.ref a) ∧ fa i = some a
  alt : ∀ i j, T.alt i = some j → fa i = fa j
  ca : ∀ i a, fa i = some a → (∃ fd, FnAt T K i [] a fd) ∨ MkAt T fa K i a
  cls : ∀ j x t C, T.p.at_ j x = some t → fa j = some C → SlX.SCls K C
  fld : ∀ j x k C, T.p.at_ j x = some (.fld k) → fa j = some C → ∃ p, SlX.Slot1 K C (T.an x) p k
  prop : ∀ j x i C, T.p.at_ j x = some (.prop i) → fa j = some C → ∃ p g fd, PropOf K C (T.an x) p g ∧ FnAt T K i [] g fd
  meth : ∀ j x i C, T.p.at_ j x = some (.meth i) → fa j = some C → ∃ g fd, Meth K C (T.an x) g ∧ FnAt T K i [] g fd
  an : T.an 0 = "__len__" ∧ T.an 1 = "__contains__"
end
section
variable {T : Tab} {fa : Nat → Option Addr} {xr : XR} {P : Program} {w : World} {K : PySem.W.Frag} {mg : Str → Option Value} {base : Heap}
theorem args_of {a : Arguments} {ps : List Str} (h : argsC a ps = true) : a.posonlyargs = [] ∧ a.args.map (·.arg) = ps ∧ a.vararg = none ∧ a.kwonlyargs = [] ∧ a.kwarg = none ∧ ps.Nodup := by
  unfold argsC at h
  split at h
  · simp only [Bool.and_eq_true, decide_eq_true_eq] at h
    exact ⟨rfl, h.1, rfl, rfl, rfl, strNodup_nodup h.2⟩
  · cases h
theorem FnAt.bd {i : Nat} {dvs : List V} {g : Addr} {fd : FuncData} (F : FnAt T K i dvs g fd) : PBd fd (T.ps i) ∧ (T.ps i).Nodup ∧ DflV K fd.defaults dvs ∧ PySem.W.keepIn K (.ref g) = true := by
  obtain ⟨_, x, d, F, _, hd⟩ := F
  have ha : argsC (defArgs d.st) (T.ps i) = true := by
    unfold defC at hd
    split at hd
    · cases hd
    · simp only [Bool.and_eq_true] at hd; exact hd.1.2
  obtain ⟨h1, h2, h3, h4, h5, h6⟩ := args_of ha
  obtain ⟨oc, od, dV, kV, doc, pm, an, cdv, ct, osl, rfl, lk, hcd, hD, hK⟩ := F.ex
  exact ⟨⟨h1, h2, h3, h4, h5⟩, h6, hD, F.kp⟩
theorem FnAt.pb {i : Nat} {g : Addr} {fd : FuncData} (F : FnAt T K i [] g fd) : PB fd (T.ps i) ∧ (T.ps i).Nodup := by
  obtain ⟨h1, h2, h3, _⟩ := F.bd
  rcases h3 with ⟨_, e⟩ | ⟨n, _⟩
  · exact ⟨⟨h1.po, h1.ar, h1.va, h1.ko, h1.kw, e⟩, h2⟩
  · exact absurd rfl n
theorem spF_eq {c c' : Cfg} (h1 : c.cf = c'.cf) (h2 : c.own = c'.own) {i np : Nat} : spF fa K xr c i np = spF fa K xr c' i np := by
  unfold spF; rw [h1, h2]
theorem spF_no {n i np : Nat} {vs : List V} {H : Hp} {Q : VK} {E : XK} (h : spF fa K xr (cfg0 T n) i np vs H Q E) : n ≠ 0 := fun z => by
  subst z
  obtain ⟨F, ow, p, _, _, h⟩ := h
  exact h
/-- how many a def takes -/
theorem spF_np {n i np : Nat} {d : Df} {vs : List V} {H : Hp} {Q : VK} {E : XK} (hc : T.p.ct i = none) (hd : defC T i d = true) (h : spF fa K xr (cfg0 T n) i np vs H Q E) : np = (T.ps i).length := by
  obtain ⟨F, ow, p, hp, g, h⟩ := h
  cases n with
  | zero => exact (show False from h).elim
  | succ n =>
    have h : match runF T.p (T.p.run n) i p with | .ok d ps' => _ | .ex x ps' => _ | .no => _ := h
    unfold runF at h
    rw [hc] at h
    unfold defC at hd
    cases hf : T.p.fn i with
    | none => rw [hf] at hd; cases hd
    | some fn =>
      rw [hf] at hd h
      simp only [Bool.and_eq_true, decide_eq_true_eq] at hd
      by_cases q : p.length = fn.np
      · rw [← hp, q, hd.1.1.1.2]
      · simp only at h
        rw [if_neg q] at h
        exact (show False from h).elim
theorem fnR_of {n lev i : Nat} {g : Addr} {fd : FuncData} (F : FnAt T K i [] g fd) (G : FnOk P w K mg base (L2.CX P w) lev g fd (T.ps i) (spF fa K xr (cfg0 T n) i (T.ps i).length)) (np : Nat) : FnR P w K mg base (L2.CX P w) lev g (spF fa K xr (cfg0 T n) i np) := by
  intro A outer s H us vs Q E hr e0 r h
  have e : np = (T.ps i).length := spF_np F.1 F.2.choose_spec.choose_spec.2.2 h
  subst e
  obtain ⟨pb, nd⟩ := F.pb
  have hl := G.len _ _ _ _ h
  exact G.run A outer s H ⟨us, []⟩ us vs Q E hr e0 (pb.binds (.all nd (by rw [← r.length]; exact hl.symm))) r h
theorem Callee.up {b : Bool} {l1 l2 : Nat} {a : Addr} {ps : List Str} {sp : Sp} (h : l1 ≤ l2) (C : Callee P w K mg base l1 a ps b sp) : Callee P w K mg base l2 a ps b sp :=
  ⟨C.kp, fun h1 h2 h3 h4 h5 hr tk I r g k q => C.run h1 h2 h3 h4 h5 (hr.mono (by omega)) tk I r g k q⟩
/-- from the defs to what may be called -/
theorem ca_of (M : Md T fa K mg) (n : Nat) (D : ∀ k, k ≤ n → ∀ {i : Nat} {dvs : List V} {g : Addr} {fd : FuncData}, FnAt T K i dvs g fd → FnOk P w K mg base (L2.CX P w) (2 * k) g fd (T.ps i) (spF fa K xr (cfg0 T k) i (T.ps i).length)) {i : Nat} {a : Addr} (h : fa i = some a) :
    (T.ps i).Nodup ∧ Callee P w K mg base (2 * n) a (T.ps i) (T.byN i) (spF fa K xr (cfg0 T n) i (T.ps i).length) := by
  rcases M.ca i a h with ⟨fd, F⟩ | ⟨t, f, fd, dvs, p0, post, h1, h2, h3, h4, h5, h6, h7, h8, h9⟩
  · obtain ⟨pb, nd⟩ := F.pb
    exact ⟨nd, .of_fn (D n (Nat.le_refl _) F) F.bd.2.2.2 pb⟩
  · refine ⟨h9, ?_⟩
    cases n with
    | zero => exact ⟨h3.kp, fun _ _ _ _ _ _ _ _ _ _ _ q => absurd rfl (spF_no q)⟩
    | succ n =>
      obtain ⟨bd, nd, hD, _⟩ := h4.bd
      refine Callee.up (l1 := 2 * n) (by omega) (Callee.of_mk h3 (D n (Nat.le_succ _) h4) bd h5 nd hD h6 h7 fun vs H Q E q x dx hx hdx hne => ?_)
      have := make_sp (c := cfg0 T (n + 1)) (c0 := cfg0 T n) (fun ps => by show runF T.p (T.p.run n) i ps = _; unfold runF; rw [h1]; rfl) rfl h2 h8 q hx hdx hne
      have e : (T.ps i).length + t.2.2.length + 1 = (T.ps t.2.1).length := by
        rw [h5, (h8 (fun _ => none)).length, List.length_cons, List.length_append, List.length_drop]; omega
      rw [e] at this
      exact this
theorem cl_of (M : Md T fa K mg) {n : Nat} (D : ∀ {i : Nat} {dvs : List V} {g : Addr} {fd : FuncData}, FnAt T K i dvs g fd → FnOk P w K mg base (L2.CX P w) (2 * n) g fd (T.ps i) (spF fa K xr (cfg0 T n) i (T.ps i).length)) :
    ClsOk P w K mg base (2 * n) fa T.p.at_ T.an fun i np => spF fa K xr (cfg0 T n) i np :=
  ⟨M.cls, M.fld, fun j x i C h1 h2 => let ⟨p, g, _, h3, h4⟩ := M.prop j x i C h1 h2; ⟨p, g, h3, fnR_of h4 (D h4)⟩, fun j x i C h1 h2 => let ⟨g, _, h3, h4⟩ := M.meth j x i C h1 h2; ⟨g, h3, fnR_of h4 (D h4)⟩⟩
theorem fn_ok (M : Md T fa K mg) : ∀ (n : Nat) (k : Nat), k ≤ n → ∀ {i : Nat} {dvs : List V} {f : Addr} {fd : FuncData}, FnAt T K i dvs f fd → FnOk P w K mg base (L2.CX P w) (2 * k) f fd (T.ps i) (spF fa K xr (cfg0 T k) i (T.ps i).length)
  | 0, k, hk, i, dvs, f, fd, _ => by
    have e : k = 0 := by omega
    subst e
    have no : ∀ vs H Q E, ¬ spF fa K xr (cfg0 T 0) i (T.ps i).length vs H Q E := fun vs H Q E h => spF_no h rfl
    exact ⟨fun vs H Q E h => absurd h (no _ _ _ _), fun A outer s H args us vs Q E hr he hb hv hs => absurd hs (no _ _ _ _)⟩
  | n + 1, k, hk, i, dvs, f, fd, hF => by
    rcases Nat.lt_or_ge k (n + 1) with hlt | hge
    · exact fn_ok M n k (by omega) hF
    have e : k = n + 1 := by omega
    subst e
    have IH := fn_ok M n
    obtain ⟨hct, x, d, h5, h6, h7⟩ := hF
    unfold defC at h7
    cases hfn : T.p.fn i with
    | none => rw [hfn] at h7; cases h7
    | some fn =>
      rw [hfn] at h7
      simp only [Bool.and_eq_true, decide_eq_true_eq] at h7
      obtain ⟨⟨⟨⟨hn, hnp⟩, hle⟩, hargs⟩, hchk⟩ := h7
      have hT : (T.ps i).length = fn.np := hnp.symm
      refine FunD.ok (k := 2 * n + 1) h5 h6 (fun vs H Q E ⟨F, ow, p, hp, s, _⟩ => ?_) fun cdv A outer s H vs Q E hr ⟨F, ow, p, hp, gs, hsp⟩ => ?_
      · have := s.len
        rw [List.length_map] at this
        rw [← this, hp]
      · generalize hX : cxOf (L2.CX P w) P w K mg base d.N d.qual (defScope d.st) f cdv A outer s H E = X
        have hlv : vs.length = fn.np := by
          have := gs.len
          rw [List.length_map] at this
          rw [← this, hp, hT]
        let c : Cfg := T.p.cfg (T.p.run n) fn p
        have C : CtxD (2 * n) fa xr (T.nm d.N) c fn.mine (defScope d.st) (fun cls dd _ H' => E cls dd H') X := by
          subst hX
          refine ⟨⟨rfl, h6.nd, rfl, hr.mono (Nat.le_succ _), fun y hy => ?_, fun y hy => ?_, fun y hy => ?_, fun y hy => hy, M.bu, M.con, M.fn, M.alt, fun j g hy => ?_, ?_, M.an, hr, takes_of rfl rfl rfl rfl⟩, passes_of rfl, rfl, ?_, rfl⟩
          · unfold visC at hy
            split at hy
            · rename_i q; exact .inl q
            · rename_i q; exact .inr (.inl q)
            · rename_i q; exact .inr (.inr q)
            · cases hy
          · unfold gloC at hy
            split at hy
            · rename_i q; exact q
            · cases hy
          · unfold locC at hy
            split at hy
            · rename_i q; exact ⟨.inl q, .inl rfl⟩
            · rename_i q; exact ⟨.inr q, .inl rfl⟩
            · cases hy
          · exact ca_of (xr := xr) (P := P) (w := w) (base := base) M n IH hy
          · exact cl_of (xr := xr) (P := P) (w := w) (base := base) M (IH n (Nat.le_refl _))
          · have hk : ∀ env : Env, env.scope.kind = .function → env.blockKind = .function := fun env h => by unfold Env.blockKind; rw [h]; rfl
            exact hk _ h6.kind
        have hK : X.K = K := by subst hX; rfl
        refine ⟨_, sndSs (H₀ := H) (σ₀ := L2.start d.N vs) C fn.body hchk, ?_⟩
        rw [hK]
        refine ⟨F, ow, p ++ List.replicate (fn.n - fn.np) .un, ⟨fun a h => h, fun j _ => rfl⟩, ?_, ?_⟩
        · refine ⟨gs.sub, gs.own, ?_, fun j q hj => ?_⟩
          · unfold L2.start
            rw [List.length_append, List.length_append, List.length_replicate, List.length_replicate, List.length_map, hp, hT, hlv, hn]
          · by_cases hlt : j < p.length
            · rw [List.getElem?_append_left hlt] at hj
              obtain ⟨o, o1, o2⟩ := gs.slot j q hj
              refine ⟨o, ?_, o2⟩
              unfold L2.start
              rw [List.getElem?_append_left (by rw [List.length_map, hlv, ← hT, ← hp]; exact hlt)]
              exact o1
            · rw [List.getElem?_append_right (Nat.le_of_not_lt hlt)] at hj
              have hj' := (List.getElem?_eq_some_iff.mp hj)
              obtain ⟨h8, h9⟩ := hj'
              rw [List.getElem_replicate] at h9
              subst h9
              rw [List.length_replicate] at h8
              rw [hp, hT] at h8 hlt
              refine ⟨none, ?_, trivial⟩
              unfold L2.start
              rw [List.getElem?_append_right (by rw [List.length_map, hlv]; omega), List.length_map, hlv, List.getElem?_replicate, if_pos (by rw [← hn]; exact h8)]
        · have hown : (cfg0 T (n + 1)).own i = fn.mine := by show T.p.own i = _; unfold Pg.own; rw [hfn]
          have hrun : (cfg0 T (n + 1)).cf i p = (match evSs c fn.body (p ++ List.replicate (fn.n - fn.np) .un) with
              | .rt d e => .ok d (e.take fn.np)
              | .nx e => if fn.mine then .no else .ok .non (e.take fn.np)
              | .ex x e => .ex x (e.take fn.np)
              | _ => .no) := by
            show runF T.p (T.p.run n) i p = _
            unfold runF
            rw [hct]
            simp only
            rw [hfn]
            simp only
            rw [if_pos (by rw [hp, hT])]
            all_goals rfl
          rw [hrun] at hsp
          have slots : ∀ {e : En} {H' F' : Hp} {ow' : Ow} {σ' : St}, Gst fa K H' F' ow' e σ' → Fx c (L2.start d.N vs) σ' → ∀ j v, isMl (gt p j) = true → vs[j]? = some v → SlotOk fa K H' F' ow' j (gt (e.take fn.np) j) (some v) := by
            intro e H' F' ow' σ' g' hx j v hm hv
            have hjv : j < vs.length := (List.getElem?_eq_some_iff.mp hv).1
            have hl : c.lent j = true := by
              show (isMl (gt p j) && decide (j < fn.np)) = true
              rw [hm, decide_eq_true (by omega)]; rfl
            have hσ : σ'[j]? = some (some v) := by
              rw [hx j hl]
              unfold L2.start
              rw [List.getElem?_append_left (by rw [List.length_map]; exact hjv), List.getElem?_map, hv]
              rfl
            have hje : j < e.length := by rw [g'.len]; exact (List.getElem?_eq_some_iff.mp hσ).1
            obtain ⟨o, o1, o2⟩ := g'.slot j _ (List.getElem?_eq_getElem hje)
            rw [hσ] at o1
            cases o1
            have : gt (e.take fn.np) j = e[j] := by
              rw [get_gt, List.getElem?_take, if_pos (by omega), List.getElem?_eq_getElem hje]
              rfl
            rw [this]
            exact o2
          cases hr' : evSs c fn.body (p ++ List.replicate (fn.n - fn.np) .un) with
          | rt r e =>
            rw [hr'] at hsp
            intro v σ' H' F' ow' ev hx g' hv
            exact hsp v H' F' ow' ev g'.sub g'.own (slots g' hx) (hown ▸ hv)
          | nx e =>
            rw [hr'] at hsp
            intro σ' H' F' ow' ev hx g'
            cases hm : fn.mine with
            | true => rw [hm] at hsp; exact hsp.elim
            | false =>
              rw [hm] at hsp hown
              exact hsp .non H' F' ow' ev g'.sub g'.own (slots g' hx) (by rw [hown]; exact Vd.of .non)
          | ex y e =>
            rw [hr'] at hsp
            intro cls dd σ' H' F' ow' ev hx g' hxr
            exact hsp cls dd H' F' ow' ev g'.sub g'.own (slots g' hx) hxr
          | bk e => rw [hr'] at hsp; exact hsp.elim
          | ct e => rw [hr'] at hsp; exact hsp.elim
          | no => rw [hr'] at hsp; exact hsp.elim
end
end Mi
end
section
/-! the law's end -/
namespace Mi
open PySem L2 PySem.Spec
/-- a table by numbers -/
inductive Tr (α : Type) where
  | leaf | node (l : Tr α) (k : Nat) (v : α) (r : Tr α)
noncomputable def Tr.get {α : Type} (t : Tr α) (i : Nat) : Option α :=
  Tr.rec (motive := fun _ => Option α) none (fun _ k v _ l r => match Nat.blt i k with | true => l | false => (match Nat.blt k i with | true => r | false => some v)) t
section
variable {T : Tab} {fa : Nat → Option Addr} {xr : XR} {K : PySem.W.Frag}
theorem rep_ints {F : Hp} : ∀ ns : List Int, RepL fa K F (ns.map Mi.D.int) (ns.map V.int)
  | [] => .nil
  | n :: ns => .cons (.int n) (rep_ints ns)
/-- the law's def, asked at a script -/
theorem law_sp {n i : Nat} {H : Hp} {a : Addr} {ns : List Int} {ps : List P} (hS : SqL K H a (ns.map V.int)) (h : T.p.run n i [.val (.scr (ns.map Mi.D.int))] = .ok (.bl true) ps) :
    spF fa K xr (cfg0 T n) i 1 [.ref a] H (fun v _ => v = .bl true) fun _ _ _ => False := by
  refine ⟨H, fun _ => none, [.val (.scr (ns.map Mi.D.int))], rfl, ⟨Sub.refl, (fun _ _ h => by cases h), rfl, fun j p hj => ?_⟩, ?_⟩
  · cases j with
    | zero => cases hj; exact ⟨_, rfl, .ref a, rfl, .scr hS (rep_ints ns)⟩
    | succ j => cases hj
  · show match T.p.run n i [.val (.scr (ns.map Mi.D.int))] with | .ok d ps' => _ | .ex x ps' => _ | .no => _
    rw [h]
    intro v H' F' ow' ev sb how hsl hv
    have r : Rep fa K F' (.bl true) v := by
      cases q : (cfg0 T n).own i with
      | false => rw [q] at hv; exact hv.rep (fr := false)
      | true => rw [q] at hv; exact hv
    cases r
    rfl
end
/-- the module's tables as they are read off the heap behind the top -/
structure Ent where
  x : Str
  i : Nat
  d : Df
/-- a def of a class: x the class's name, m its own -/
structure Met where
  x : Str
  m : Str
  prop : Bool
  i : Nat
  d : Df
  dfl : List He.Dv
/-- i makes objects of the class number j (its name x) by the def i0, whose parameters are p0, those of i, post; dds: what post has -/
structure Ctr where
  x : Str
  i : Nat
  j : Nat
  i0 : Nat
  p0 : Str
  post : List Str
  dds : List D
def ctG (cs : List Ctr) (i : Nat) : Option (Nat × Nat × List D) := (cs.find? fun c => Nat.beq c.i i).map fun c => (c.j, c.i0, c.dds)
def atG : List (Nat × Nat × At) → Nat → Nat → Option At
  | [], _, _ => none
  | p :: r, j, x => match Nat.beq p.1 j && Nat.beq p.2.1 x with | true => some p.2.2 | false => atG r j x
def altG (al : List (Nat × Nat)) (i : Nat) : Option Nat := (al.find? fun p => Nat.beq p.1 i).map (·.2)
theorem beq_of {a b : Nat} (h : Nat.beq a b = true) : a = b := Nat.eq_of_beq_eq_true h
theorem atG_mem {j x : Nat} {t : At} : ∀ {as : List (Nat × Nat × At)}, atG as j x = some t → (j, x, t) ∈ as
  | [], h => by cases h
  | p :: r, h => by
    unfold atG at h
    split at h
    · rename_i q
      rw [Bool.and_eq_true] at q
      cases h
      rw [← beq_of q.1, ← beq_of q.2]
      exact List.mem_cons_self
    · exact List.mem_cons_of_mem _ (atG_mem h)
/-- the global name of a number -/
def nmG (es : List Ent) (cs : List Ctr) (i : Nat) : Option Str := match es.find? fun e => Nat.beq e.i i with
  | some e => some e.x
  | none => (cs.find? fun c => Nat.beq c.i i).map (·.x)
def conOk : D → Bool
  | .int _ => true | .str z => PyData.strOk z | _ => false
def faG (gl : Nat → Option D) (p : Str × Gk) : He.Fa := match p.2 with
  | .fn _ => .glo p.1
  | .bu => .free p.1
  | .con i => (match gl i with | some (.int n) => .int p.1 n | some (.str z) => .str p.1 z | _ => .glo p.1)
  | .cls _ => .glo p.1
def gOk (gl : Nat → Option D) (es : List Ent) (cs : List Ctr) (p : Str × Gk) : Bool := match p.2 with
  | .fn i => decide (nmG es cs i = some p.1)
  | .bu => true
  | .con i => (match gl i with | some d => conOk d | none => false)
  | .cls _ => true
def scopeC (N P : List Str) (sc : Scope) : Bool := decide (sc.kind = .function) && !sc.isCoroutine && !sc.isGenerator && strNodup N && decide (N.take P.length = P) &&
  P.all (fun x => decide (sc.names.lookup x = some .local) || decide (sc.names.lookup x = some .cell)) && sc.names.all fun y => !decide (y.2 = .free)
theorem scopeC_ok {N P : List Str} {sc : Scope} (h : scopeC N P sc = true) : FnScope N P sc := by
  unfold scopeC at h
  simp only [Bool.and_eq_true, decide_eq_true_eq, Bool.not_eq_true'] at h
  obtain ⟨⟨⟨⟨⟨⟨h1, h2⟩, h3⟩, h4⟩, h5⟩, h6⟩, h7⟩ := h
  refine ⟨h1, h2, h3, strNodup_nodup h4, h5, fun x hx => ?_, fun y hy => ?_⟩
  · have := List.all_eq_true.mp h6 x hx
    simpa using this
  · have := List.all_eq_true.mp h7 y hy
    simpa using this
def dC (T : Tab) (i : Nat) (d : Df) : Bool := defC T i d && scopeC d.N (T.ps i) (defScope d.st) && (T.p.ct i).isNone
def entC (T : Tab) (e : Ent) : Bool := dC T e.i e.d
def metC (T : Tab) (m : Met) : Bool := dC T m.i m.d
def ctrC (T : Tab) (es : List Ent) (cs : List Ctr) (ms : List Met) (c : Ctr) : Bool := decide (nmG es cs c.j = some c.x) && strNodup (T.ps c.i) && decide (T.ps c.i0 = c.p0 :: (T.ps c.i ++ c.post)) &&
  (ms.any fun m => Nat.beq m.i c.i0 && decide (m.x = c.x) && decide (m.m = "__init__") && !m.prop && decide (c.post.length ≤ m.dfl.length) && decide (m.dfl.length ≤ (T.ps c.i0).length))
/-- the getter of a property -/
def pgA (K : PySem.W.Frag) (C : Addr) (f : Str) : Addr := match PySem.W.recIn K (He.ma K C f) "property" with
  | some (.ref g :: _) => g
  | _ => 0
def Met.at_ (m : Met) (K : PySem.W.Frag) : Addr := if m.prop then pgA K (He.ga K m.x) m.m else He.ma K (He.ga K m.x) m.m
def dfE (e : Ent) : He5.DefA := ⟨fun K => He.ga K e.x, e.x, e.d.qual, defArgs e.d.st, defBody e.d.st, defScope e.d.st, [], []⟩
def dfM (m : Met) : He5.DefA := ⟨m.at_, m.m, m.d.qual, defArgs m.d.st, defBody m.d.st, defScope m.d.st, m.dfl, []⟩
/-! ### what the head is asked -/
def sclsB (K : PySem.W.Frag) (x : Str) : Bool := PySem.W.plainGet K (He.ga K x) Str.empty && (PySem.W.isClsIn K (He.ga K x) && (PySem.W.plainOver K (He.ga K x) && He.eqO (PySem.W.findIn K (.ref (He.ga K x)) "__setattr__") (some (some (.builtin "object.__setattr__")))))
theorem sclsB_ok {K : PySem.W.Frag} {x : Str} (h : sclsB K x = true) : SlX.SCls K (He.ga K x) := by
  obtain ⟨c1, c⟩ := He.ba h
  obtain ⟨c2, c⟩ := He.ba c
  obtain ⟨c3, c4⟩ := He.ba c
  exact ⟨c1, c2, c3, He.eqO_ok c4⟩
def slotB (K : PySem.W.Frag) (x f : Str) (k : Nat) : Bool := He.eqO (PySem.W.findIn K (.ref (He.ga K x)) f) (some (some (.ref (He.ma K (He.ga K x) f)))) &&
  (He.eqO (PySem.W.specialIn K (.ref (He.ma K (He.ga K x) f)) "__get__") (some (some (.builtin "member_descriptor.__get__"))) && (decide (PySem.W.takesIn K (.ref (He.ma K (He.ga K x) f)) = some true) &&
  (decide (PySem.W.typeIn K (.ref (He.ma K (He.ga K x) f)) = some (.type "member_descriptor")) && (decide (PySem.W.slotIn K (He.ma K (He.ga K x) f) (He.ga K x) = some k) && decide (k < 1000)))))
theorem slotB_ok {K : PySem.W.Frag} {x f : Str} {k : Nat} (h : slotB K x f k = true) : SlX.Slot1 K (He.ga K x) f (He.ma K (He.ga K x) f) k := by
  obtain ⟨c1, c⟩ := He.ba h
  obtain ⟨c2, c⟩ := He.ba c
  obtain ⟨c3, c⟩ := He.ba c
  obtain ⟨c4, c⟩ := He.ba c
  obtain ⟨c5, c6⟩ := He.ba c
  exact ⟨He.eqO_ok c1, He.eqO_ok c2, of_decide_eq_true c3, of_decide_eq_true c4, of_decide_eq_true c5, of_decide_eq_true c6⟩
def propB (K : PySem.W.Frag) (x f : Str) : Bool := He.eqO (PySem.W.findIn K (.ref (He.ga K x)) f) (some (some (.ref (He.ma K (He.ga K x) f)))) &&
  (He.eqO (PySem.W.specialIn K (.ref (He.ma K (He.ga K x) f)) "__get__") (some (some (.builtin "property.__get__"))) && (decide (PySem.W.takesIn K (.ref (He.ma K (He.ga K x) f)) = some true) &&
  (match PySem.W.recIn K (He.ma K (He.ga K x) f) "property" with | some (.ref _ :: _) => true | _ => false)))
theorem propB_ok {K : PySem.W.Frag} {x f : Str} (h : propB K x f = true) : PropOf K (He.ga K x) f (He.ma K (He.ga K x) f) (pgA K (He.ga K x) f) := by
  obtain ⟨c1, c⟩ := He.ba h
  obtain ⟨c2, c⟩ := He.ba c
  obtain ⟨c3, c4⟩ := He.ba c
  refine ⟨He.eqO_ok c1, He.eqO_ok c2, of_decide_eq_true c3, ?_⟩
  unfold pgA
  split at c4
  · rename_i g r q
    rw [q]
    exact ⟨r, rfl⟩
  · cases c4
/-- a default as the small language has it -/
def okDv (K : PySem.W.Frag) : D → He.Dv → Bool
  | .non, .non => true
  | .bl a, .bl b => a == b
  | .int a, .int b => decide (a = b)
  | .str a, .str b => decide (a = b) && PyData.strOk a
  | .tup [], .adr p => (match K.lookup (p K) with | some ⟨.type c, _, .seq its _, _⟩ => decide (c = "tuple") && its.isEmpty | _ => false)
  | _, _ => false
theorem okDv_ok {fa : Nat → Option Addr} {K : PySem.W.Frag} {d : D} {v : He.Dv} (h : okDv K d v = true) (F : Hp) : Rep fa K F d (v.v K) := by
  unfold okDv at h
  split at h
  · exact .non
  · have := eq_of_beq h; subst this; exact .bl _
  · have := of_decide_eq_true h; subst this; exact .int _
  · rw [Bool.and_eq_true, decide_eq_true_eq] at h
    obtain ⟨h1, h2⟩ := h
    subst h1
    exact .str h2
  · rename_i p
    split at h
    · rename_i c od its n sl q
      rw [Bool.and_eq_true, decide_eq_true_eq] at h
      obtain ⟨h1, h2⟩ := h
      subst h1
      have e : its = #[] := by simpa using h2
      subst e
      exact .tup (vs := []) (.inr ⟨_, _, _, q, rfl, rfl, by decide, .nil⟩) .nil
    · cases h
  · cases h
def okDvs (K : PySem.W.Frag) : List D → List He.Dv → Bool
  | [], [] => true
  | d :: ds, v :: vs => okDv K d v && okDvs K ds vs
  | _, _ => false
theorem okDvs_ok {fa : Nat → Option Addr} {K : PySem.W.Frag} (F : Hp) : ∀ {ds : List D} {vs : List He.Dv}, okDvs K ds vs = true → RepL fa K F ds (vs.map (He.Dv.v K))
  | [], [], _ => .nil
  | d :: ds, v :: vs, h => by
    obtain ⟨h1, h2⟩ := He.ba (show (okDv K d v && okDvs K ds vs) = true from h)
    exact .cons (okDv_ok h1 F) (okDvs_ok F h2)
  | [], _ :: _, h => by cases h
  | _ :: _, [], h => by cases h
def atB (T : Tab) (es : List Ent) (cs : List Ctr) (ms : List Met) (K : PySem.W.Frag) (p : Nat × Nat × At) : Bool := match nmG es cs p.1 with
  | some cx => sclsB K cx && (match p.2.2 with
    | .fld k => slotB K cx (T.an p.2.1) k
    | .prop i => propB K cx (T.an p.2.1) && (ms.any fun m => Nat.beq m.i i && decide (m.x = cx) && decide (m.m = T.an p.2.1) && m.prop && m.dfl.isEmpty)
    | .meth i => (He.Fa.meth cx (T.an p.2.1)).ok K && (ms.any fun m => Nat.beq m.i i && decide (m.x = cx) && decide (m.m = T.an p.2.1) && !m.prop && m.dfl.isEmpty))
  | none => false
def ctB (ms : List Met) (K : PySem.W.Frag) (c : Ctr) : Bool := (He.Fa.mkr c.x).ok K && ms.all fun m => !(Nat.beq m.i c.i0) || okDvs K c.dds (m.dfl.drop (m.dfl.length - c.post.length))
/-- all that the head is asked -/
abbrev factsOf (T : Tab) : List He.Fa := T.G.map (faG T.p.gl)
abbrev defsOf (es : List Ent) (ms : List Met) : List He5.DefA := es.map dfE ++ ms.map dfM
def moreB (T : Tab) (es : List Ent) (cs : List Ctr) (ms : List Met) (as : List (Nat × Nat × At)) (K : PySem.W.Frag) : Bool := as.all (atB T es cs ms K) && cs.all (ctB ms K)
def obsM (fc : List He.Fa) (ex : PySem.W.Frag → Bool) (fn : List He5.DefA) (K : PySem.W.Frag) : He.AlD := ((fc.all fun f => f.ok K) && (ex K && fn.all fun d => d.ok K), fn.map fun d => He5.fnA K (d.at_ K))
def SaysM (fc : List He.Fa) (ex : PySem.W.Frag → Bool) (fn : List He5.DefA) (K : PySem.W.Frag) : Prop := obsM fc ex fn K = He5.valA fn
def obsMG (n : Nat) (fc : List He.Fa) (ex : PySem.W.Frag → Bool) (fn : List He5.DefA) (g : Addr → Option Obj) : He.AlD := obsM fc ex fn (He.frG g (He5.asA g n))
def hookM (n : Nat) (fc : List He.Fa) (ex : PySem.W.Frag → Bool) (fn : List He5.DefA) : PySem.W.Hook where
  α := He.AlD
  obs := fun s => obsMG n fc ex fn s.heap.get?
  val := fun _ => He5.valA fn
  says := fun _ h => ∃ K : PySem.W.Frag, K.In h ∧ SaysM fc ex fn K
  of := fun _ _ e => ⟨_, He.frG_in, e⟩
  keeps := fun _ _ _ ⟨K, hK, c⟩ k => ⟨K, PySem.W.Frag.In.keeps hK k, c⟩
theorem obsMG_eq {n : Nat} {fc : List He.Fa} {ex : PySem.W.Frag → Bool} {fn : List He5.DefA} {g : Addr → Option Obj} {s : Shared} (h : ∀ a, g a = s.heap.get? a) : obsMG n fc ex fn g = (hookM n fc ex fn).obs s := by
  have e : g = s.heap.get? := funext h
  rw [e] <;> rfl
noncomputable def faOf (K : PySem.W.Frag) (es : List Ent) (cs : List Ctr) (i : Nat) : Option Addr := (nmG es cs i).map (He.ga K)
theorem gk_mem {G : GT} {x : Str} {k : Gk} (h : gk G x = some k) : (x, k) ∈ G := by
  induction G with
  | nil => cases h
  | cons p r ih =>
    unfold gk at h
    split at h
    · rename_i q
      cases h
      subst q
      exact List.mem_cons_self
    · exact List.mem_cons_of_mem _ (ih h)
section
variable {fc : List He.Fa} {ex : PySem.W.Frag → Bool} {fn : List He5.DefA} {K : PySem.W.Frag}
theorem SaysM.fact (c : SaysM fc ex fn K) {f : He.Fa} (h : f ∈ fc) : f.ok K = true := by
  have c1 := (He.ba (show ((fc.all fun f => f.ok K) && (ex K && fn.all fun d => d.ok K)) = true from congrArg (fun z : He.AlD => z.1) c)).1
  exact List.all_eq_true.mp c1 f h
theorem SaysM.more (c : SaysM fc ex fn K) : ex K = true := (He.ba (He.ba (show ((fc.all fun f => f.ok K) && (ex K && fn.all fun d => d.ok K)) = true from congrArg (fun z : He.AlD => z.1) c)).2).1
theorem SaysM.def_ (c : SaysM fc ex fn K) {d : He5.DefA} (h : d ∈ fn) : ∃ fd, FunD K d.name d.qual d.params d.body d.scope (d.dvs K) (d.kws K) (d.at_ K) fd := by
  have c2 := (He.ba (He.ba (show ((fc.all fun f => f.ok K) && (ex K && fn.all fun d => d.ok K)) = true from congrArg (fun z : He.AlD => z.1) c)).2).2
  have e : fn.map (fun d => He5.fnA K (d.at_ K)) = fn.map He5.DefA.val := congrArg (fun z : He.AlD => z.2) c
  obtain ⟨i, hi⟩ := List.mem_iff_getElem?.mp h
  have e2 : (fn.map fun d => He5.fnA K (d.at_ K))[i]? = (fn.map He5.DefA.val)[i]? := by rw [e]
  rw [List.getElem?_map, List.getElem?_map, hi] at e2
  exact He5.DefA.funD (Option.some.inj e2) (List.all_eq_true.mp c2 d h)
end
/-- the tables and what is checked of them -/
structure TabOk (T : Tab) (es : List Ent) (cs : List Ctr) (ms : List Met) (as : List (Nat × Nat × At)) (al : List (Nat × Nat)) : Prop where
  at_ : T.p.at_ = atG as
  ct : T.p.ct = ctG cs
  alt : T.alt = altG al
  g : T.G.all (gOk T.p.gl es cs) = true
  e : es.all (entC T) = true
  m : ms.all (metC T) = true
  c : cs.all (ctrC T es cs ms) = true
  al : (al.all fun p => decide (nmG es cs p.1 = nmG es cs p.2)) = true
  an : T.an 0 = "__len__" ∧ T.an 1 = "__contains__"
theorem dC_at {T : Tab} {K : PySem.W.Frag} {i : Nat} {d : Df} {x : Str} {dvs : List V} {g : Addr} {fd : FuncData} (h : dC T i d = true) (F : FunD K x d.qual (defArgs d.st) (defBody d.st) (defScope d.st) dvs [] g fd) : FnAt T K i dvs g fd := by
  unfold dC at h
  simp only [Bool.and_eq_true, Option.isNone_iff_eq_none] at h
  exact ⟨h.2, x, d, F, scopeC_ok h.1.2, h.1.1⟩
theorem md_of {T : Tab} {es : List Ent} {cs : List Ctr} {ms : List Met} {as : List (Nat × Nat × At)} {al : List (Nat × Nat)} {K : PySem.W.Frag} {h : Heap} {mg : Str → Option Value} (X : K.In h) (G : h.Ns mainGlobals mg) (c : SaysM (factsOf T) (moreB T es cs ms as) (defsOf es ms) K) (O : TabOk T es cs ms as al) : Md T (faOf K es cs) K mg := by
  have fact : ∀ {x : Str} {k : Gk}, gk T.G x = some k → (faG T.p.gl (x, k)).ok K = true ∧ gOk T.p.gl es cs (x, k) = true := fun h =>
    ⟨c.fact (List.mem_map_of_mem (gk_mem h)), List.all_eq_true.mp O.g _ (gk_mem h)⟩
  obtain ⟨hat, hctr⟩ := He.ba (show (as.all (atB T es cs ms K) && cs.all (ctB ms K)) = true from c.more)
  have met : ∀ {m : Met}, m ∈ ms → ∃ fd, FnAt T K m.i (m.dfl.map (He.Dv.v K)) (m.at_ K) fd := fun {m} hm => by
    obtain ⟨fd, hF⟩ := c.def_ (d := dfM m) (List.mem_append_right _ (List.mem_map_of_mem hm))
    exact ⟨fd, dC_at (List.all_eq_true.mp O.m m hm) hF⟩
  have atf : ∀ {j x : Nat} {t : At} {C : Addr}, T.p.at_ j x = some t → faOf K es cs j = some C → ∃ cx, nmG es cs j = some cx ∧ C = He.ga K cx ∧ atB T es cs ms K (j, x, t) = true := fun {j x t C} h1 h2 => by
    rw [O.at_] at h1
    unfold faOf at h2
    obtain ⟨cx, h3, h4⟩ := Option.map_eq_some_iff.mp h2
    exact ⟨cx, h3, h4.symm, List.all_eq_true.mp hat _ (atG_mem h1)⟩
  refine ⟨fun x hx => ?_, fun x i hx => ?_, fun x i hx => ?_, fun i j hx => ?_, fun i a ha => ?_, fun j x t C h1 h2 => ?_, fun j x k C h1 h2 => ?_, fun j x i C h1 h2 => ?_, fun j x i C h1 h2 => ?_, O.an⟩
  · exact He.free_ok X G (fact hx).1
  · obtain ⟨h1, h2⟩ := fact hx
    simp only [gOk] at h2
    cases hd : T.p.gl i with
    | none => rw [hd] at h2; cases h2
    | some d =>
      rw [hd] at h2
      have h1 : (match T.p.gl i with | some (.int n) => He.Fa.int x n | some (.str z) => He.Fa.str x z | _ => He.Fa.glo x).ok K = true := h1
      rw [hd] at h1
      cases d with
      | int n =>
        obtain ⟨t, e⟩ := He.int_ok X G h1
        exact ⟨_, .int n, .int n, e, ⟨t, rfl⟩, rfl, fun F => .int n⟩
      | str z =>
        obtain ⟨t, e⟩ := He.str_ok X G h1
        exact ⟨_, .str z, .str z, e, ⟨t, rfl⟩, rfl, fun F => .str h2⟩
      | _ => cases h2
  · obtain ⟨h1, h2⟩ := fact hx
    refine ⟨_, He.glo_ok X G h1, ?_⟩
    have h2 : nmG es cs i = some x := of_decide_eq_true h2
    unfold faOf
    rw [h2]
    rfl
  · rw [O.alt] at hx
    unfold altG at hx
    obtain ⟨p, h1, h2⟩ := Option.map_eq_some_iff.mp hx
    have h3 := of_decide_eq_true (List.all_eq_true.mp O.al p (List.mem_of_find?_eq_some h1))
    have h4 : p.1 = i := beq_of (by simpa using List.find?_some h1)
    unfold faOf
    rw [← h4, ← h2, h3]
  · unfold faOf nmG at ha
    cases hf : es.find? fun e => Nat.beq e.i i with
    | some e =>
      rw [hf] at ha
      cases ha
      have hm := List.mem_of_find?_eq_some hf
      have hi : e.i = i := beq_of (by simpa using List.find?_some hf)
      subst hi
      obtain ⟨fd, hF⟩ := c.def_ (d := dfE e) (List.mem_append_left _ (List.mem_map_of_mem hm))
      exact .inl ⟨fd, dC_at (List.all_eq_true.mp O.e e hm) hF⟩
    | none =>
      rw [hf] at ha
      cases hg : cs.find? fun c => Nat.beq c.i i with
      | none => rw [hg] at ha; cases ha
      | some q =>
        rw [hg] at ha
        cases ha
        have hm := List.mem_of_find?_eq_some hg
        have hi : q.i = i := beq_of (by simpa using List.find?_some hg)
        subst hi
        have k1 := List.all_eq_true.mp O.c q hm
        have k2 := List.all_eq_true.mp hctr q hm
        unfold ctrC at k1
        simp only [Bool.and_eq_true, decide_eq_true_eq] at k1
        obtain ⟨⟨⟨k3, k4⟩, k5⟩, k6⟩ := k1
        obtain ⟨m, hmm, k7⟩ := List.any_eq_true.mp k6
        simp only [Bool.and_eq_true, decide_eq_true_eq, Bool.not_eq_true'] at k7
        obtain ⟨⟨⟨⟨⟨k8, k9⟩, k10⟩, k11⟩, k12⟩, k13⟩ := k7
        obtain ⟨k14, k15⟩ := He.ba k2
        have k16 := List.all_eq_true.mp k15 m hmm
        rw [k8] at k16
        have k16 : okDvs K q.dds (m.dfl.drop (m.dfl.length - q.post.length)) = true := by simpa using k16
        obtain ⟨fd, hF⟩ := met hmm
        have e0 : m.i = q.i0 := beq_of k8
        have ea : m.at_ K = He.ma K (He.ga K q.x) "__init__" := by unfold Met.at_; rw [k11, k9, k10]; rfl
        rw [e0, ea] at hF
        refine .inr ⟨(q.j, q.i0, q.dds), _, fd, _, q.p0, q.post, ?_, ?_, He.mkr_ok k14, hF, k5, by rw [List.length_map]; exact k13, by rw [List.length_map]; exact k12, fun F => ?_, strNodup_nodup k4⟩
        · rw [O.ct]; unfold ctG; rw [hg]; rfl
        · unfold faOf; rw [k3]; rfl
        · rw [List.length_map, ← List.map_drop]
          exact okDvs_ok F k16
  · obtain ⟨cx, e1, rfl, e3⟩ := atf h1 h2
    unfold atB at e3
    rw [e1] at e3
    exact sclsB_ok (He.ba e3).1
  · obtain ⟨cx, e1, rfl, e3⟩ := atf h1 h2
    unfold atB at e3
    rw [e1] at e3
    exact ⟨_, slotB_ok (He.ba e3).2⟩
  · obtain ⟨cx, e1, rfl, e3⟩ := atf h1 h2
    unfold atB at e3
    rw [e1] at e3
    obtain ⟨e4, e5⟩ := He.ba (He.ba e3).2
    obtain ⟨m, hm, k⟩ := List.any_eq_true.mp e5
    simp only [Bool.and_eq_true, decide_eq_true_eq, List.isEmpty_iff] at k
    obtain ⟨⟨⟨⟨k1, k2⟩, k3⟩, k4⟩, k5⟩ := k
    obtain ⟨fd, hF⟩ := met hm
    have ea : m.at_ K = pgA K (He.ga K cx) (T.an x) := by unfold Met.at_; rw [if_pos k4, k2, k3]
    rw [beq_of k1, ea, k5] at hF
    exact ⟨_, _, fd, propB_ok e4, hF⟩
  · obtain ⟨cx, e1, rfl, e3⟩ := atf h1 h2
    unfold atB at e3
    rw [e1] at e3
    obtain ⟨e4, e5⟩ := He.ba (He.ba e3).2
    obtain ⟨m, hm, k⟩ := List.any_eq_true.mp e5
    simp only [Bool.and_eq_true, decide_eq_true_eq, List.isEmpty_iff, Bool.not_eq_true'] at k
    obtain ⟨⟨⟨⟨k1, k2⟩, k3⟩, k4⟩, k5⟩ := k
    obtain ⟨fd, hF⟩ := met hm
    have ea : m.at_ K = He.ma K (He.ga K cx) (T.an x) := by unfold Met.at_; rw [if_neg (by rw [k4]; simp), k2, k3]
    rw [beq_of k1, ea, k5] at hF
    exact ⟨_, fd, He.meth_ok e4, hF⟩
/-- the walk of a law: what the interpreter says at every script -/
theorem walkH {l : PySem.W.OpenLaw} {q : Program} {loose : List Str} {XP : (Str → Option Value) → Heap → Prop} {YP : World → Heap → Prop} {d : DefRec} {x : Str} (n : Nat) (i : Nat) (T : Tab) (es : List Ent) (cs : List Ctr) (ms : List Met) (as : List (Nat × Nat × At)) (al : List (Nat × Nat)) (hn : l.most = some 63) (hdf : d.params.defaults = []) (hr : Room (2 * n) callerA)
    (hY : ∀ (w : World) (h : Heap), YP w h → ∃ K : PySem.W.Frag, K.In h ∧ SaysM (factsOf T) (moreB T es cs ms as) (defsOf es ms) K) (hi : gk T.G d.name = some (.fn i)) (h1 : T.ps i = [x]) (hc : T.p.ct i = none) (O : TabOk T es cs ms as al)
    (law : ∀ ns : List Int, ns.length ≤ 63 → (∀ z ∈ ns, Builtin.Int.intBits z ≤ 1048576) → ∃ ps, T.p.run n i [.val (.scr (ns.map Mi.D.int))] = .ok (.bl true) ps) :
    PySem.W.WalkO q loose XP YP l.row.toRowW d [] (fun f vs => PySem.call f vs) := by
  refine Att.attach_callB hn hdf fun w s₀ s₁ mg mb fa o pm cd doc a vs ns G Y ho hd hcd hmg hobj hints hlen hbits hgn => ?_
  obtain ⟨K, KX, c⟩ := hY w _ Y
  have M : Md T (faOf K es cs) K mg := md_of KX G.T.g c O
  obtain ⟨a', m1, m2⟩ := M.fn _ _ hi
  rw [hmg] at m1
  cases m1
  rcases M.ca _ _ m2 with ⟨fd, hF⟩ | ⟨t, _, _, _, _, _, z, _⟩
  · obtain ⟨pb, nd⟩ := hF.pb
    refine law_call (fd := fd) (CX := L2.CX l.prog w) (k := 2 * n) (x := x) (sp := spF (faOf K es cs) K (fun _ _ _ _ _ => False) (cfg0 T n) i 1) KX G.T.g G.T.b G.T.builtins G.T.nolimit hgn hobj hints (Nat.le_trans hlen (by decide)) hr (fun base hb hbg => ?_) (fun s u => ?_) (fun H hO hS => ?_) fun H e s' z => ?_
    · have key : FnOk l.prog w K mg base (L2.CX l.prog w) (2 * n) fa fd (T.ps i) (spF (faOf K es cs) K (fun _ _ _ _ _ => False) (cfg0 T n) i (T.ps i).length) := fn_ok M n n (Nat.le_refl _) hF
      rw [h1] at key
      exact key
    · have := pb.binds (s := s) (us := [u]) (ws := [u]) (kws := []) (.all nd (by rw [h1]; rfl))
      rw [h1] at this
      exact this
    · obtain ⟨ps, hps⟩ := law ns hlen hbits
      exact law_sp hS hps
    · obtain ⟨_, _, _, _, _, _, _, _, _, _, _, _, z⟩ := z
      exact z.elim
  · rw [hc] at z; cases z
end Mi
end
section
/-! the interpreter's equations, for plain laws -/
namespace Mi
open PySem L2
section
variable {c : Cfg} {e : En}
/-! ### expressions -/
theorem ev_k {d : D} : evE c (.k d) e = .ok d e := rfl
theorem ev_v {i : Nat} : evE c (.v i) e = xV c i e := rfl
theorem ev_g {i : Nat} : evE c (.g i) e = lift (c.gl i) e := rfl
theorem ev_neg {a : M} : evE c (.neg a) e = (evE c a e).bind fun d e => match d with | .int i => .ok (.int (-i)) e | _ => .no := rfl
theorem ev_not {a : M} : evE c (.not a) e = (evE c a e).bind fun d e => lift ((tru d).map fun b => .bl (!b)) e := rfl
theorem ev_bop {o : Operator} {a b : M} : evE c (.bop o a b) e = (evE c a e).bind fun x e => (evE c b e).bind fun y e => lift (bopD o x y) e := rfl
theorem ev_bool {a : Bool} {l : Ms} : evE c (.bool a l) e = xBool a (evEs c l) e := rfl
theorem ev_cmp {a b : M} {o : CmpOp} : evE c (.cmp a o b) e = (evE c a e).bind fun x e => (evE c b e).bind fun y e => lift ((cmpD o x y).map .bl) e := rfl
theorem ev_cmp2 {a b z : M} {o p : CmpOp} : evE c (.cmp2 a o b p z) e = (evE c a e).bind fun x e => (evE c b e).bind fun y e => (lift (cmpD o x y) e).bind fun t e => if t then (evE c z e).bind fun w e => lift ((cmpD p y w).map .bl) e else .ok (.bl false) e := rfl
theorem ev_ite {t a b : M} : evE c (.ite t a b) e = (evE c t e).bind fun x e => (lift (tru x) e).bind fun t e => if t then evE c a e else evE c b e := rfl
theorem ev_tup {l : Ms} : evE c (.tup l) e = (esC (evEs c l) e).bind fun ds e => if ds.length ≤ sizeLine then .ok (.tup ds) e else .no := rfl
theorem ev_lst {l : Ms} : evE c (.lst l) e = (esC (evEs c l) e).bind fun ds e => if ds.length ≤ sizeLine then .ok (.lst ds) e else .no := rfl
theorem ev_comp {own : List Nat} {elt : M} {tg : Tg} {it : It} {ifs : Ms} : evE c (.comp own elt tg it ifs) e = xComp c own tg it (evE c elt) (evI c it) (evEs c ifs) e := rfl
theorem ev_call {f : Nat} {l : Ms} : evE c (.call f l) e = xCall c f (evEs c l) e := rfl
theorem ev_callk {f : Nat} {l : Ms} {ks : List Nat} : evE c (.callk f l ks) e = (esC (evEs c l) e).bind fun ds e => match pickK (vals ds) ks with | some ps => doCall c f ps none e | none => .no := rfl
theorem ev_bi {b : Bi} {l : Ms} : evE c (.bi b l) e = (esC (evEs c l) e).bind fun ds e => lift (biD b ds) e := rfl
theorem ev_mt {b : Mt} {o : M} {l : Ms} : evE c (.mt b o l) e = (evE c o e).bind fun x e => if mtOk b x then (esC (evEs c l) e).bind fun ds e => lift (mtD b x ds) e else .no := rfl
theorem ev_sub {o i : M} : evE c (.sub o i) e = (evE c o e).bind fun x e => (evE c i e).bind fun y e => lift (subD x y) e := rfl
theorem ev_sl {o : M} {lo hi : Ms} : evE c (.sl o lo hi) e = (evE c o e).bind fun x e => (partsE (evEs c lo) e).bind fun l e => (partsE (evEs c hi) e).bind fun h e => lift (slD x l h) e := rfl
theorem ev_isi {o : M} {ts : List Ty} : evE c (.isi o ts) e = (evE c o e).bind fun x e => lift (isiD x ts) e := rfl
theorem ev_bsub {i : Nat} {a : M} : evE c (.bsub i a) e = xBsub i (evE c a) e := rfl
theorem ev_blen {i : Nat} : evE c (.blen i) e = match shown (gt e i) with | some x => lift (biD .len [x]) e | none => .no := rfl
theorem ev_bin {n : Bool} {a : M} {i : Nat} : evE c (.bin n a i) e = xBin n i (evE c a) e := rfl
theorem ev_bcmp {o : CmpOp} {a : M} {i : Nat} : evE c (.bcmp i o a) e = xBcmp o i (evE c a) e := rfl
theorem ev_pop {i : Nat} {l : Ms} : evE c (.pop i l) e = xPop i (evEs c l) e := rfl
theorem ev_px {o : Px} {l : Ms} : evE c (.px o l) e = (esC (evEs c l) e).bind fun ds e => lift (pxD o ds) e := rfl
theorem ev_attr {o : M} {x : Nat} : evE c (.attr o x) e = xAttr c x (evE c o) e := rfl
theorem ev_meth {o : M} {x : Nat} {l : Ms} : evE c (.meth o x l) e = xMeth c x (evE c o) (evEs c l) e := rfl
theorem ev_olen {o : M} : evE c (.olen o) e = xOlen c (evE c o) e := rfl
theorem ev_oin {n : Bool} {a o : M} : evE c (.oin n a o) e = xOin c n (evE c a) (evE c o) e := rfl
theorem ev_dcomp {own : List Nat} {k v : M} {tg : Tg} {it : It} {ifs : Ms} : evE c (.dcomp own k v tg it ifs) e = xDcomp c own tg it (evE c k) (evE c v) (evI c it) (evEs c ifs) e := rfl
theorem ev_comp2 {own own2 : List Nat} {elt : M} {tg tg2 : Tg} {it it2 : It} {ifs ifs2 : Ms} : evE c (.comp2 own own2 elt tg it ifs tg2 it2 ifs2) e = xComp2 c own own2 tg tg2 (evE c elt) (evI c it) (evI c it2) (evEs c ifs) (evEs c ifs2) e := rfl
theorem evs_nil : evEs c .nil = [] := rfl
theorem evs_cons {s : Bool} {a : M} {r : Ms} : evEs c (.cons s a r) = (s, a, evE c a) :: evEs c r := rfl
theorem es_nil : esC [] e = .ok [] e := rfl
theorem es_cons {a : M} {f : CE} {l : CL} : esC ((false, a, f) :: l) e = (f e).bind fun d e => (esC l e).bind fun ds e => .ok (d :: ds) e := rfl
theorem ts_nil : tsC [] e = .ok true e := rfl
theorem ts_cons {s : Bool} {a : M} {f : CE} {l : CL} : tsC ((s, a, f) :: l) e = (f e).bind fun d e => (lift (tru d) e).bind fun b e => if b then tsC l e else .ok false e := rfl
theorem xb_one {a : Bool} {s : Bool} {m : M} {f : CE} : xBool a [(s, m, f)] e = f e := rfl
theorem xb_two {a : Bool} {s s2 : Bool} {m m2 : M} {f f2 : CE} {l : CL} : xBool a ((s, m, f) :: (s2, m2, f2) :: l) e = (f e).bind fun d e => (lift (tru d) e).bind fun t e => if t = a then xBool a ((s2, m2, f2) :: l) e else .ok d e := rfl
theorem ei_e {a : M} : evI c (.e a) e = (evE c a e).bind fun d e => lift d.items e := rfl
theorem ei_rng {l : Ms} : evI c (.rng l) e = (esC (evEs c l) e).bind fun ds e => lift (rngD ds) e := rfl
theorem ei_enum {a : M} : evI c (.enum a) e = (evE c a e).bind fun d e => lift (d.items.map (enumD 0)) e := rfl
theorem ei_zip {l : Ms} : evI c (.zip l) e = (esC (evEs c l) e).bind fun ds e => lift (zipA ds) e := rfl
theorem parts_nil : partsE [] e = .ok none e := rfl
theorem parts_one {a : M} {f : CE} : partsE [(false, a, f)] e = (f e).bind fun d e => lift (argI [d]) e := by
  unfold partsE
  rw [es_cons, R.bind_assoc]
  rfl
/-! ### outcomes -/
theorem ok_bind {α β : Type} {a : α} {e : En} {f : α → En → R β} : (R.ok a e : R α).bind f = f a e := rfl
theorem no_bind {α β : Type} {f : α → En → R β} : (R.no : R α).bind f = .no := rfl
theorem lift_some {α : Type} {a : α} : lift (some a) e = .ok a e := rfl
theorem ok_fl {α : Type} {a : α} {e : En} {f : α → En → Fl} : (R.ok a e : R α).fl f = f a e := rfl
/-! ### slots -/
theorem gt_zero {p : P} {t : En} : gt (p :: t) 0 = p := rfl
theorem gt_succ {p : P} {t : En} {i : Nat} : gt (p :: t) (i + 1) = gt t i := rfl
theorem st_zero {β : Type} {p v : P} {t : En} {k : En → β} : st (p :: t) 0 v k = k (v :: t) := rfl
theorem st_succ {β : Type} {p v : P} {t : En} {i : Nat} {k : En → β} : st (p :: t) (i + 1) v k = st t i v fun t => k (p :: t) := rfl
theorem xv_val {i : Nat} {d : D} (h : gt e i = .val d) : xV c i e = .ok d e := by unfold xV; rw [h]
/-! ### statements -/
theorem s_nil : evSs c .nil e = .nx e := rfl
theorem s_cons {s : S} {r : Ss} : evSs c (.cons s r) e = match evS c s e with | .nx e => evSs c r e | f => f := rfl
theorem s_e {a : M} : evS c (.e a) e = (evE c a e).fl fun _ e => .nx e := rfl
theorem s_asg {i : Nat} {a : M} : evS c (.asg i a) e = (evE c a e).fl fun d e => if okS c e i then st e i (keepP c i a d) .nx else .no := rfl
theorem s_asgT {is : List Nat} {a : M} : evS c (.asgT is a) e = (evE c a e).fl fun d e => if okTg c e (.t is) then bindTg e (.t is) d .nx .no else .no := rfl
theorem s_asgP {is : List Nat} {l : Ms} : evS c (.asgP is l) e = (esC (evEs c l) e).fl fun ds e => asgAll c is (evEs c l) ds e .nx .no := rfl
theorem s_app {i : Nat} {a : M} : evS c (.app i a) e = sApp c i a e := rfl
theorem s_setI {i : Nat} {x a : M} : evS c (.setI i x a) e = sSetI c i x a e := rfl
theorem s_setA {i x : Nat} {a : M} : evS c (.setA i x a) e = sSetA c i x a e := rfl
theorem s_ret {a : M} : evS c (.ret a) e = (evE c a e).fl fun d e => if c.mine && !a.fresh c.own then .no else .rt d e := rfl
theorem s_ife {t : M} {a b : Ss} : evS c (.ife t a b) e = (evE c t e).fl fun d e => match tru d with | some true => evSs c a e | some false => evSs c b e | none => .no := rfl
theorem s_for {tg : Tg} {it : It} {b : Ss} : evS c (.for tg it b) e = (evI c it e).fl fun xs e => forL tg c (evSs c b) xs e := rfl
theorem s_whl {t : M} {b : Ss} : evS c (.whl t b) e = whlL (evE c t) (evSs c b) c.turns e := rfl
theorem s_doc : evS c .doc e = .nx e := rfl
end
/-! ### loops -/
/-- a comprehension whose turns leave all as it was: g x, if t x -/
theorem loopC_pure {tg : Tg} {tt : En → R Bool} {el : CE} {own : List Nat} {B : En} {t : D → Bool} {g : D → D} : ∀ (xs acc : List D) (e : En), wipeL e own = B →
    (∀ x ∈ xs, ∃ e1 e2, bindL B tg x = some e1 ∧ tt e1 = .ok (t x) e2 ∧ (t x = false → wipeL e2 own = B) ∧ (t x = true → ∃ e3, el e2 = .ok (g x) e3 ∧ wipeL e3 own = B)) →
    ∃ e', loopC tg tt el own xs acc e = .ok (acc.reverse ++ (xs.filter t).map g) e' ∧ wipeL e' own = B
  | [], acc, e, he, _ => ⟨e, by simp [loopC], he⟩
  | x :: xs, acc, e, he, h => by
    obtain ⟨e1, e2, h1, h2, h3, h4⟩ := h x List.mem_cons_self
    rw [loopC_cons, he, h1]
    simp only
    rw [h2, ok_bind]
    cases ht : t x with
    | false =>
      obtain ⟨e', h5, h6⟩ := loopC_pure xs acc e2 (h3 ht) fun y hy => h y (List.mem_cons_of_mem _ hy)
      refine ⟨e', ?_, h6⟩
      simp only [Bool.false_eq_true, if_false, List.filter_cons, ht]
      exact h5
    | true =>
      obtain ⟨e3, h5, h6⟩ := h4 ht
      obtain ⟨e', h7, h8⟩ := loopC_pure xs (g x :: acc) e3 h6 fun y hy => h y (List.mem_cons_of_mem _ hy)
      refine ⟨e', ?_, h8⟩
      simp only [if_true, List.filter_cons, ht, h5, ok_bind]
      rw [h7]
      simp
end Mi
end
section
namespace Mi
open PySem L2
/-- how a def's block ends -/
def endF (fn : Fn) : Fl → R D
  | .rt d e => .ok d (e.take fn.np)
  | .nx e => if fn.mine then .no else .ok .non (e.take fn.np)
  | .ex x e => .ex x (e.take fn.np)
  | _ => .no
theorem run_fn {T : Tab} {n f : Nat} {ps : List P} {fn : Fn} (h1 : T.p.ct f = none) (h2 : T.p.fn f = some fn) (h3 : ps.length = fn.np) : T.p.run (n + 1) f ps = endF fn (evSs (T.p.cfg (T.p.run n) fn ps) fn.body (ps ++ List.replicate (fn.n - fn.np) .un)) := by
  show runF T.p (T.p.run n) f ps = _
  unfold runF
  rw [h1]
  simp only
  rw [h2]
  simp only
  rw [if_pos h3]
  cases evSs (T.p.cfg (T.p.run n) fn ps) fn.body (ps ++ List.replicate (fn.n - fn.np) .un) <;> rfl
section
variable {a b : Int} {x y z : D} {xs ys : List D} {e : En} {c : Cfg} {i : Nat}
theorem shown_ml : shown (.ml xs) = some (.lst xs) := rfl
theorem shown_val {d : D} : shown (.val d) = some d := rfl
theorem shown_md {kvs : List (Key × D)} : shown (.md kvs) = some (.dct kvs) := rfl
theorem at_0 : atI (x :: xs) 0 = some x := by unfold atI ixN; simp
theorem at_1 : atI (x :: y :: xs) 1 = some y := by
  unfold atI ixN
  rw [if_pos (by decide), if_pos (by simp only [List.length_cons]; omega)]
  rfl
theorem at_2 : atI (x :: y :: z :: xs) 2 = some z := by
  unfold atI ixN
  rw [if_pos (by decide), if_pos (by simp only [List.length_cons]; omega)]
  rfl
theorem sub_lst : subD (.lst xs) (.int a) = atI xs a := rfl
theorem sub_tup : subD (.tup xs) (.int a) = atI xs a := rfl
theorem ix_0 {m : Nat} : ixN (m + 1) 0 = some 0 := by unfold ixN; simp
theorem ix_1 {m : Nat} : ixN (m + 2) 1 = some 1 := by unfold ixN; simp; omega
theorem ix_2 {m : Nat} : ixN (m + 3) 2 = some 2 := by unfold ixN; simp; omega
theorem bop_add : bopD .Add (.int a) (.int b) = some (.int (a + b)) := rfl
theorem bop_sub : bopD .Sub (.int a) (.int b) = some (.int (a - b)) := rfl
theorem bop_mul (h : a.natAbs.log2 + b.natAbs.log2 < 100000000) : bopD .Mult (.int a) (.int b) = some (.int (a * b)) := if_pos h
theorem bop_div (h : 0 < b ∧ b.natAbs.log2 < 9000) : bopD .FloorDiv (.int a) (.int b) = some (.int (a / b)) := if_pos h
theorem bop_mod (h : 0 < b) : bopD .Mod (.int a) (.int b) = some (.int (a % b)) := if_pos h
theorem bi_int : biD .int [.int a] = some (.int a) := rfl
theorem gt_ints : cmpD .Gt (.int a) (.int b) = some (decide (b < a)) := rfl
theorem le_ints : cmpD .LtE (.int a) (.int b) = some (decide (a ≤ b)) := rfl
theorem lt_ints : cmpD .Lt (.int a) (.int b) = some (decide (a < b)) := by
  show ltD (.int a) (.int b) = _
  unfold ltD
  rfl
theorem ge_ints : cmpD .GtE (.int a) (.int b) = some (decide (b ≤ a)) := rfl
theorem tru_bl {b : Bool} : tru (.bl b) = some b := rfl
theorem bsub_ml (h : gt e i = .ml xs) {f : CE} : xBsub i f e = (f e).bind fun y e => match shown (gt e i) with | some x => lift (subD x y) e | none => .no := by unfold xBsub; rw [h]; rfl
theorem setI_ml {x a : M} {d : D} {k : Int} {j : Nat} {ys : List D} {e1 e2 : En} (h1 : evE c a e = .ok d e1) (h2 : gt e1 i = .ml xs) (h3 : evE c x e1 = .ok (.int k) e2) (h4 : gt e2 i = .ml ys) (h5 : ixN ys.length k = some j) : evS c (.setI i x a) e = .nx (e2.set i (.ml (ys.set j d))) := by
  rw [s_setI]
  unfold sSetI
  rw [h1, ok_fl, h2]
  simp only
  rw [h3, ok_fl, h4]
  simp only
  rw [h5]
  simp only
  rw [st_eq]
end
end Mi
end
section
namespace Mi
open PySem L2
section
variable {c : Cfg} {e e1 : En}
/-- a call that is lent the list of slot i -/
theorem call_lend {f i : Nat} {r : Ms} {ds xs ys zs : List D} {d : D} {ps' : List P} (hio : c.io f = true) (h0 : gt e i = .ml xs) (h1 : esC (evEs c r) e = .ok ds e1) (h2 : gt e1 i = .ml ys) (h3 : c.cf f (.ml ys :: vals ds) = .ok d ps') (h4 : gt ps' 0 = .ml zs) :
    evE c (.call f (.cons false (.v i) r)) e = .ok d (e1.set i (.ml zs)) := by
  rw [ev_call, evs_cons]
  unfold xCall
  have hl : lends c f (.v i) e = some i := by unfold lends; rw [if_pos hio]; simp only [h0]
  simp only [Bool.false_eq_true, if_false, hl]
  rw [h1, ok_bind, h2]
  simp only
  unfold doCall
  rw [h3]
  simp only
  unfold backS
  rw [h4]
  simp only
  rw [st_eq]
/-- a call by values -/
theorem call_val {f : Nat} {a : M} {r : Ms} {d d' : D} {ds : List D} {e2 : En} {ps' : List P} (hio : c.io f = false) (h0 : evE c a e = .ok d e1) (h1 : esC (evEs c r) e1 = .ok ds e2) (h3 : c.cf f (.val d :: vals ds) = .ok d' ps') : evE c (.call f (.cons false a r)) e = .ok d' e2 := by
  rw [ev_call, evs_cons]
  unfold xCall
  have hl : lends c f a e = none := by unfold lends; rw [hio]; rfl
  have hh : handP c f a d = .val d := by unfold handP; rw [hio]; rfl
  simp only [Bool.false_eq_true, if_false, hl]
  rw [h0, ok_bind, h1, ok_bind, hh]
  unfold doCall
  rw [h3]
  rfl
/-- a call that is handed a new list -/
theorem call_new {f : Nat} {a : M} {r : Ms} {d' : D} {xs ds : List D} {e2 : En} {ps' : List P} (hio : c.io f = true) (hl : lends c f a e = none) (hf : a.fresh c.own = true) (h0 : evE c a e = .ok (.lst xs) e1) (h1 : esC (evEs c r) e1 = .ok ds e2) (h3 : c.cf f (.ml xs :: vals ds) = .ok d' ps') : evE c (.call f (.cons false a r)) e = .ok d' e2 := by
  rw [ev_call, evs_cons]
  unfold xCall
  have hh : handP c f a (.lst xs) = .ml xs := by unfold handP; rw [hio, hf]; rfl
  simp only [Bool.false_eq_true, if_false, hl]
  rw [h0, ok_bind, h1, ok_bind, hh]
  unfold doCall
  rw [h3]
  rfl
theorem es_of {a : M} {r : Ms} {d : D} {ds : List D} {e2 : En} (h1 : evE c a e = .ok d e1) (h2 : esC (evEs c r) e1 = .ok ds e2) : esC (evEs c (.cons false a r)) e = .ok (d :: ds) e2 := by
  rw [evs_cons, es_cons, h1, ok_bind, h2, ok_bind]
theorem es_end : esC (evEs c .nil) e = .ok [] e := rfl
theorem s_step {s : S} {r : Ss} (h : evS c s e = .nx e1) : evSs c (.cons s r) e = evSs c r e1 := by rw [s_cons, h]
theorem s_rt {s : S} {r : Ss} {d : D} (h : evS c s e = .rt d e1) : evSs c (.cons s r) e = .rt d e1 := by rw [s_cons, h]
theorem asg_of {i : Nat} {a : M} {d : D} (h : evE c a e = .ok d e1) (hk : okS c e1 i = true) : evS c (.asg i a) e = .nx (e1.set i (keepP c i a d)) := by
  rw [s_asg, h, ok_fl, if_pos hk, st_eq]
theorem ret_of {a : M} {d : D} (h : evE c a e = .ok d e1) (hm : c.mine = false) : evS c (.ret a) e = .rt d e1 := by
  rw [s_ret, h, ok_fl, hm]; rfl
theorem ret_own {a : M} {d : D} (h : evE c a e = .ok d e1) (hf : a.fresh c.own = true) : evS c (.ret a) e = .rt d e1 := by
  rw [s_ret, h, ok_fl, hf]; simp
theorem ife_t {t : M} {a b : Ss} {d : D} (h : evE c t e = .ok d e1) (ht : tru d = some true) : evS c (.ife t a b) e = evSs c a e1 := by rw [s_ife, h, ok_fl, ht]
theorem ife_f {t : M} {a b : Ss} {d : D} (h : evE c t e = .ok d e1) (ht : tru d = some false) : evS c (.ife t a b) e = evSs c b e1 := by rw [s_ife, h, ok_fl, ht]
theorem v_val {i : Nat} {d : D} (h : gt e i = .val d) : evE c (.v i) e = .ok d e := by rw [ev_v, xv_val h]
theorem v_ml {i : Nat} {xs : List D} (h : gt e i = .ml xs) (hl : c.lent i = false) : evE c (.v i) e = .ok (.lst xs) (e.set i (.val (.lst xs))) := by
  rw [ev_v]; unfold xV; rw [h]; simp only; rw [hl, st_eq]; rfl
/-- append -/
theorem app_of {i : Nat} {a : M} {d : D} {xs ys : List D} (h0 : gt e i = .ml xs) (h : evE c a e = .ok d e1) (h1 : gt e1 i = .ml ys) (hz : ys.length < sizeLine) : evS c (.app i a) e = .nx (e1.set i (.ml (ys ++ [d]))) := by
  rw [s_app]; unfold sApp; rw [h0]; simp only; rw [h, ok_fl, h1]; simp only; rw [if_pos hz, st_eq]
/-- pop(k) -/
theorem pop_of {i : Nat} {l : Ms} {k : Int} {j : Nat} {xs ys : List D} {d : D} (h0 : gt e i = .ml xs) (h : esC (evEs c l) e = .ok [.int k] e1) (h1 : gt e1 i = .ml ys) (hk : -big ≤ k ∧ k < big) (hj : ixN ys.length k = some j) (hd : ys[j]? = some d) : evE c (.pop i l) e = .ok d (e1.set i (.ml (ys.eraseIdx j))) := by
  rw [ev_pop]; unfold xPop; rw [h0]; simp only; rw [h, ok_bind, h1]; simp only; rw [if_pos hk, hj]; simp only; rw [hd]; simp only; rw [st_eq]
theorem blen_of {i : Nat} {xs : List D} (h : gt e i = .ml xs) : evE c (.blen i) e = .ok (.int xs.length) e := by rw [ev_blen, h]; rfl
theorem ix_nat {m k : Nat} (h : k < m) : ixN m (k : Int) = some k := by
  unfold ixN
  rw [if_pos (by omega), if_pos (by omega)]
  simp
/-- a for over items, by an invariant over what is left -/
theorem for_inv {tg : Tg} {it : It} {b : Ss} {xs : List D} {I : List D → En → Prop} (h : evI c it e = .ok xs e1) (h0 : I xs e1)
    (hs : ∀ x r e, I (x :: r) e → ∃ e2, okTg c e tg = true ∧ bindL e tg x = some e2 ∧ ∃ e3, evSs c b e2 = .nx e3 ∧ I r e3) : ∃ e4, evS c (.for tg it b) e = .nx e4 ∧ I [] e4 := by
  rw [s_for, h, ok_fl]
  clear h
  induction xs generalizing e1 with
  | nil => exact ⟨e1, rfl, h0⟩
  | cons x r ih =>
    obtain ⟨e2, h1, h2, e3, h3, h4⟩ := hs x r e1 h0
    rw [forL_cons, if_pos h1, h2]
    simp only
    rw [h3]
    exact ih h4
/-- a while, by an invariant with a measure -/
theorem whl_inv {t : M} {b : Ss} {I : Nat → En → Prop} {J : En → Prop} : ∀ (m k : Nat) (e : En), I m e → m < k → (∀ m e, I m e → ∃ d e1, evE c t e = .ok d e1 ∧ ((tru d = some false ∧ J e1) ∨ (tru d = some true ∧ ∃ m' e2, m = m' + 1 ∧ evSs c b e1 = .nx e2 ∧ I m' e2))) → ∃ e', whlL (evE c t) (evSs c b) k e = .nx e' ∧ J e'
  | m, 0, e, _, hk, _ => by omega
  | m, k + 1, e, hI, hk, h => by
    obtain ⟨d, e1, h1, h2⟩ := h m e hI
    show ∃ e', (evE c t e).fl (fun d e => match tru d with
    | some true => (match evSs c b e with
      | .nx e => whlL (evE c t) (evSs c b) k e
      | .ct e => whlL (evE c t) (evSs c b) k e
      | .bk e => .nx e
      | r => r)
    | some false => .nx e
    | none => .no) = .nx e' ∧ J e'
    rw [h1, ok_fl]
    rcases h2 with ⟨h3, h4⟩ | ⟨h3, m', e2, rfl, h4, h5⟩
    · rw [h3]; exact ⟨e1, rfl, h4⟩
    · rw [h3]
      simp only
      rw [h4]
      exact whl_inv m' k e2 h5 (by omega) h
/-- a comprehension, by an invariant over what is left and what came of it -/
theorem loopC_inv {tg : Tg} {tt : En → R Bool} {el : CE} {own : List Nat} {I : List D → List D → En → Prop} : ∀ (xs acc : List D) (e : En), I xs acc.reverse (wipeL e own) →
    (∀ x r acc e, I (x :: r) acc e → ∃ e1 b e2, bindL e tg x = some e1 ∧ tt e1 = .ok b e2 ∧ ((b = false ∧ I r acc (wipeL e2 own)) ∨ (b = true ∧ ∃ d e3, el e2 = .ok d e3 ∧ I r (acc ++ [d]) (wipeL e3 own)))) →
    ∃ ds e', loopC tg tt el own xs acc e = .ok ds e' ∧ I [] ds (wipeL e' own)
  | [], acc, e, h, _ => ⟨acc.reverse, e, rfl, h⟩
  | x :: r, acc, e, h, hs => by
    obtain ⟨e1, b, e2, h1, h2, h3⟩ := hs x r _ _ h
    rw [loopC_cons, h1]
    simp only
    rw [h2, ok_bind]
    rcases h3 with ⟨rfl, h4⟩ | ⟨rfl, d, e3, h4, h5⟩
    · exact loopC_inv r acc e2 h4 hs
    · simp only [if_true]
      rw [h4, ok_bind]
      exact loopC_inv r (d :: acc) e3 (by simpa using h5) hs
/-- such a comprehension as an expression -/
theorem comp_inv {own : List Nat} {elt : M} {tg : Tg} {it : It} {ifs : Ms} {xs : List D} {I : List D → List D → En → Prop} (hb : ∀ k, it ≠ .b k) (h : evI c it e = .ok xs e1) (hp : (own.all fun i => plainP (gt e1 i) && !c.lent i) = true) (hz : xs.length ≤ sizeLine) (h0 : I xs [] (wipeL e1 own))
    (hs : ∀ x r acc e, I (x :: r) acc e → ∃ e2 b e3, bindL e tg x = some e2 ∧ tsC (evEs c ifs) e2 = .ok b e3 ∧ ((b = false ∧ I r acc (wipeL e3 own)) ∨ (b = true ∧ ∃ d e4, evE c elt e3 = .ok d e4 ∧ I r (acc ++ [d]) (wipeL e4 own)))) :
    ∃ ds e', evE c (.comp own elt tg it ifs) e = .ok (.lst ds) (backL e1 e' own) ∧ I [] ds (wipeL e' own) := by
  obtain ⟨ds, e', h1, h2⟩ := loopC_inv (tt := tsC (evEs c ifs)) (el := evE c elt) xs [] (wipeL e1 own) (by rw [wipeL_wipeL fun i h => h]; exact h0) hs
  refine ⟨ds, e', ?_, h2⟩
  rw [ev_comp]
  unfold xComp
  rw [h, ok_bind]
  rw [hp, decide_eq_true hz]
  have lk : ∀ {β : Type} (k : En → β), lockE it e1 k = k e1 := by intro β k; cases it <;> first | rfl | exact absurd rfl (hb _)
  have fk : ∀ {β : Type} (e : En) (k : En → β) (no : β), freeE it e1 e k no = k e := by intro β e k no; cases it <;> first | rfl | exact absurd rfl (hb _)
  simp only [Bool.and_self, if_true]
  rw [lk, wipeE_eq, h1]
  simp only [backE_eq]
  rw [fk]
end
end Mi
end
section
namespace Mi
open PySem L2
section
variable {c : Cfg} {e e1 : En}
theorem line_of {k : Nat} (h : k ≤ 100000) : k ≤ sizeLine := by
  have : sizeLine = 16777216 := by first | rfl | decide
  omega
theorem set_back {i : Nat} {p : P} : (e.set i p).set i (gt e i) = e := by
  rw [List.set_set]
  refine List.ext_getElem? fun j => ?_
  by_cases hj : i = j
  · subst hj
    by_cases hl : i < e.length
    · rw [List.getElem?_set_self hl, get_gt, List.getElem?_eq_getElem hl]; rfl
    · rw [List.getElem?_eq_none (by simpa using hl), List.getElem?_eq_none (by omega)]
  · rw [List.getElem?_set_ne hj]
/-- [elt for i in it if ..] where nothing else happens -/
theorem comp_fm {i : Nat} {elt : M} {it : It} {ifs : Ms} {xs : List D} {g : D → D} {p : D → Bool} (hb : ∀ k, it ≠ .b k) (h : evI c it e = .ok xs e1) (hp : (plainP (gt e1 i) && !c.lent i) = true) (hz : xs.length ≤ sizeLine)
    (hf : ∀ x ∈ xs, tsC (evEs c ifs) (e1.set i (.val x)) = .ok (p x) (e1.set i (.val x))) (hel : ∀ x ∈ xs, p x = true → evE c elt (e1.set i (.val x)) = .ok (g x) (e1.set i (.val x))) : evE c (.comp [i] elt (.n i) it ifs) e = .ok (.lst ((xs.filter p).map g)) e1 := by
  have hw : ∀ x, wipeL (e1.set i x) [i] = e1.set i .un := fun x => by show (e1.set i x).set i .un = _; rw [List.set_set]
  obtain ⟨ds, e', h1, ⟨r, h2, h3⟩, h4⟩ := comp_inv (c := c) (own := [i]) (tg := .n i) (elt := elt) (ifs := ifs) (I := fun r ds e => (∃ l, xs = l ++ r ∧ ds = (l.filter p).map g) ∧ e = e1.set i .un) hb h (by simpa using hp) hz ⟨⟨[], rfl, rfl⟩, by show e1.set i .un = _; rfl⟩ (by
      rintro x r ds e ⟨⟨l, hl, rfl⟩, rfl⟩
      have hx : x ∈ xs := by rw [hl]; simp
      have e2 : (e1.set i .un).set i (.val x) = e1.set i (.val x) := by rw [List.set_set]
      refine ⟨e1.set i (.val x), p x, e1.set i (.val x), by show some ((e1.set i .un).set i (.val x)) = _; rw [e2], hf x hx, ?_⟩
      cases hq : p x with
      | false => exact .inl ⟨rfl, ⟨l ++ [x], by rw [hl]; simp, by simp [hq]⟩, hw _⟩
      | true => exact .inr ⟨rfl, g x, _, hel x hx hq, ⟨l ++ [x], by rw [hl]; simp, by simp [hq]⟩, hw _⟩)
  rw [h1]
  simp only [List.append_nil] at h2
  subst h2
  rw [h3]
  have hbk : backL e1 e' [i] = e1 := by
    show e'.set i (gt e1 i) = e1
    have h4 : e'.set i .un = e1.set i .un := h4
    have : (e'.set i .un).set i (gt e1 i) = (e1.set i .un).set i (gt e1 i) := by rw [h4]
    rw [List.set_set] at this
    rw [this]
    exact set_back
  rw [hbk]
theorem comp_m {i : Nat} {elt : M} {it : It} {xs : List D} {g : D → D} (hb : ∀ k, it ≠ .b k) (h : evI c it e = .ok xs e1) (hp : (plainP (gt e1 i) && !c.lent i) = true) (hz : xs.length ≤ sizeLine)
    (hel : ∀ x ∈ xs, evE c elt (e1.set i (.val x)) = .ok (g x) (e1.set i (.val x))) : evE c (.comp [i] elt (.n i) it .nil) e = .ok (.lst (xs.map g)) e1 := by
  have := comp_fm (c := c) (ifs := .nil) (p := fun _ => true) hb h hp hz (fun x _ => rfl) fun x hx _ => hel x hx
  rwa [List.filter_eq_self.mpr fun _ _ => rfl] at this
theorem loopG_inv {α : Type} {tg : Tg} {bd : α → En → R α} {own : List Nat} {I : List D → α → En → Prop} : ∀ (xs : List D) (acc : α) (e : En), I xs acc (wipeL e own) →
    (∀ x r acc e, I (x :: r) acc e → ∃ e1 acc' e2, bindL e tg x = some e1 ∧ bd acc e1 = .ok acc' e2 ∧ I r acc' (wipeL e2 own)) → ∃ acc' e', loopG tg bd own xs acc e = .ok acc' e' ∧ I [] acc' (wipeL e' own)
  | [], acc, e, h, _ => ⟨acc, e, rfl, h⟩
  | x :: r, acc, e, h, hs => by
    obtain ⟨e1, acc', e2, h1, h2, h3⟩ := hs x r acc _ h
    rw [loopG_cons, h1]
    simp only
    rw [h2, ok_bind]
    exact loopG_inv r acc' e2 h3 hs
theorem putAll_append : ∀ (l m acc : List (Key × D)), putAllD acc (l ++ m) = putAllD (putAllD acc l) m
  | [], m, acc => rfl
  | p :: l, m, acc => putAll_append l m _
/-- {k: v for i in it} where nothing else happens -/
theorem dcomp_m {i : Nat} {km vm : M} {it : It} {xs : List D} {kf : D → Key} {g : D → D} (h : evI c it e = .ok xs e1) (hp : (plainP (gt e1 i) && !c.lent i) = true) (hz : xs.length < sizeLine)
    (hk : ∀ x ∈ xs, ∃ y, evE c km (e1.set i (.val x)) = .ok y (e1.set i (.val x)) ∧ keyD y = some (kf x)) (hv : ∀ x ∈ xs, evE c vm (e1.set i (.val x)) = .ok (g x) (e1.set i (.val x))) :
    evE c (.dcomp [i] km vm (.n i) it .nil) e = .ok (.dct (putAllD [] (xs.map fun x => (kf x, g x)))) e1 := by
  have hw : ∀ x, wipeL (e1.set i x) [i] = e1.set i .un := fun x => by show (e1.set i x).set i .un = _; rw [List.set_set]
  rw [ev_dcomp]
  unfold xDcomp
  rw [h, ok_bind]
  have hc : (([i].all fun i => plainP (gt e1 i) && !c.lent i) && decide (xs.length < sizeLine)) = true := by
    rw [decide_eq_true hz]; simpa using hp
  rw [if_pos hc, wipeE_eq]
  obtain ⟨ds, e', h1, ⟨r, h2, h3⟩, h4⟩ := loopG_inv (tg := .n i) (own := [i]) (I := fun r acc e => (∃ l, xs = l ++ r ∧ acc = putAllD [] (l.map fun x => (kf x, g x))) ∧ e = e1.set i .un)
    (bd := fun (acc : List (Key × D)) e => (tsC (evEs c .nil) e).bind fun b e => if b then (evE c km e).bind fun y e => (evE c vm e).bind fun z e => lift ((keyD y).map fun y => putD acc y z) e else .ok acc e)
    xs [] (wipeL e1 [i]) ⟨⟨[], rfl, rfl⟩, by rw [wipeL_wipeL fun i h => h]; rfl⟩ (by
      rintro x r acc e ⟨⟨l, hl, rfl⟩, rfl⟩
      have hx : x ∈ xs := by rw [hl]; simp
      have e2 : (e1.set i .un).set i (.val x) = e1.set i (.val x) := by rw [List.set_set]
      obtain ⟨y, k1, k2⟩ := hk x hx
      refine ⟨e1.set i (.val x), putD (putAllD [] (l.map fun x => (kf x, g x))) (kf x) (g x), e1.set i (.val x), by show some ((e1.set i .un).set i (.val x)) = _; rw [e2], ?_, ⟨l ++ [x], by rw [hl]; simp, ?_⟩, hw _⟩
      · rw [evs_nil, ts_nil, ok_bind, if_pos rfl, k1, ok_bind, hv x hx, ok_bind, k2]
        rfl
      · rw [List.map_append, putAll_append]
        rfl)
  simp only [List.append_nil] at h2
  subst h2
  rw [h1]
  simp only [backE_eq]
  rw [h3]
  have hbk : backL e1 e' [i] = e1 := by
    show e'.set i (gt e1 i) = e1
    have h4 : e'.set i .un = e1.set i .un := h4
    have : (e'.set i .un).set i (gt e1 i) = (e1.set i .un).set i (gt e1 i) := by rw [h4]
    rw [List.set_set] at this
    rw [this]
    exact set_back
  rw [hbk]
theorem putD_new {kvs : List (Key × D)} {k : Key} {d : D} (h : ∀ p ∈ kvs, p.1 ≠ k) : putD kvs k d = kvs ++ [(k, d)] := by
  unfold putD
  rw [if_neg]
  intro z
  obtain ⟨p, hp, hq⟩ := List.any_eq_true.mp z
  exact h p hp (of_decide_eq_true hq)
theorem putAll_new : ∀ (l acc : List (Key × D)), ((acc ++ l).map (·.1)).Nodup → putAllD acc l = acc ++ l
  | [], acc, _ => by simp [putAllD]
  | p :: l, acc, h => by
    have hp : ∀ q ∈ acc, q.1 ≠ p.1 := fun q hq z => by
      rw [List.map_append, List.nodup_append] at h
      exact h.2.2 q.1 (List.mem_map_of_mem hq) p.1 (by simp) z
    show putAllD (putD acc p.1 p.2) l = _
    rw [putD_new hp, putAll_new l]
    · simp
    · simpa using h
theorem hasK_not {kvs : List (Key × D)} {k : Key} (h : ∀ p ∈ kvs, p.1 ≠ k) : hasK kvs k = false := by
  induction kvs with
  | nil => rfl
  | cons p r ih =>
    have h1 := h p List.mem_cons_self
    have h2 := ih fun q hq => h q (List.mem_cons_of_mem _ hq)
    unfold hasK
    first
      | rw [if_neg h1]; exact h2
      | simp [h1, h2]
theorem lookK_get : ∀ {kvs : List (Key × D)} {p : Key × D}, (kvs.map (·.1)).Nodup → p ∈ kvs → lookK kvs p.1 = some p.2
  | q :: r, p, n, h => by
    rw [List.map_cons, List.nodup_cons] at n
    unfold lookK
    rcases List.mem_cons.mp h with e | e
    · subst e; rw [if_pos rfl]
    · have hne : q.1 ≠ p.1 := fun z => n.1 (z ▸ List.mem_map_of_mem e)
      rw [if_neg hne]
      exact lookK_get n.2 e
/-- x[..] = .. of an own dict -/
theorem setI_md {i : Nat} {x a : M} {d y : D} {k : Key} {xs ys : List (Key × D)} {e2 : En} (h1 : evE c a e = .ok d e1) (h2 : gt e1 i = .md xs) (h3 : evE c x e1 = .ok y e2) (h4 : gt e2 i = .md ys) (h5 : keyD y = some k) (h6 : ys.length < sizeLine) : evS c (.setI i x a) e = .nx (e2.set i (.md (putD ys k d))) := by
  rw [s_setI]
  unfold sSetI
  rw [h1, ok_fl, h2]
  simp only
  rw [h3, ok_fl, h4]
  simp only
  rw [h5]
  simp only
  rw [if_pos h6, st_eq]
theorem isort_id : ∀ (xs acc : List D), (acc ++ xs).Pairwise (fun x y => y.ltb x = false) → isort acc xs = acc ++ xs
  | [], acc, _ => by simp [isort]
  | x :: xs, acc, h => by
    have hi : ∀ l : List D, (∀ y ∈ l, x.ltb y = false) → ins x l = l ++ [x] := by
      intro l
      induction l with
      | nil => intro _; rfl
      | cons y l ih =>
        intro hl
        unfold ins
        rw [hl y List.mem_cons_self]
        simp [ih fun z hz => hl z (List.mem_cons_of_mem _ hz)]
    unfold isort
    rw [hi acc, isort_id xs]
    · simp
    · simpa using h
    · rw [List.pairwise_append] at h
      exact fun y hy => h.2.2 y hy x List.mem_cons_self
theorem bool_go {a : Bool} {m m2 : M} {r : Ms} {d : D} {t : Bool} (h : evE c m e = .ok d e1) (ht : tru d = some t) (hta : t = a) : evE c (.bool a (.cons false m (.cons false m2 r))) e = evE c (.bool a (.cons false m2 r)) e1 := by
  rw [ev_bool, ev_bool, evs_cons, evs_cons, xb_two, h, ok_bind, ht, lift_some, ok_bind, if_pos hta]
theorem bool_stop {a : Bool} {m m2 : M} {r : Ms} {d : D} {t : Bool} (h : evE c m e = .ok d e1) (ht : tru d = some t) (hta : t ≠ a) : evE c (.bool a (.cons false m (.cons false m2 r))) e = .ok d e1 := by
  rw [ev_bool, evs_cons, evs_cons, xb_two, h, ok_bind, ht, lift_some, ok_bind, if_neg hta]
theorem bool_last {a : Bool} {m : M} : evE c (.bool a (.cons false m .nil)) e = evE c m e := by
  rw [ev_bool, evs_cons, evs_nil, xb_one]
theorem not_of {m : M} {d : D} {t : Bool} (h : evE c m e = .ok d e1) (ht : tru d = some t) : evE c (.not m) e = .ok (.bl (!t)) e1 := by
  rw [ev_not, h, ok_bind, ht]; rfl
theorem bin_md {n : Bool} {a : M} {i : Nat} {y : D} {k : Key} {kvs : List (Key × D)} (h : evE c a e = .ok y e1) (hg : gt e1 i = .md kvs) (hk : keyD y = some k) : evE c (.bin n a i) e = .ok (.bl (hasK kvs k != n)) e1 := by
  rw [ev_bin]
  unfold xBin
  rw [h, ok_bind, hg]
  show lift ((inD y (.dct kvs)).map fun b => D.bl (b != n)) e1 = _
  have : inD y (.dct kvs) = some (hasK kvs k) := by unfold inD; rw [hk]
  rw [this]; rfl
theorem sub_of {o i : M} {x y d : D} {e2 : En} (h1 : evE c o e = .ok x e1) (h2 : evE c i e1 = .ok y e2) (h3 : subD x y = some d) : evE c (.sub o i) e = .ok d e2 := by
  rw [ev_sub, h1, ok_bind, h2, ok_bind, h3]; rfl
theorem bsub_of {i : Nat} {a : M} {x x0 y d : D} (h0 : shown (gt e i) = some x0) (h1 : evE c a e = .ok y e1) (h2 : shown (gt e1 i) = some x) (h3 : subD x y = some d) : evE c (.bsub i a) e = .ok d e1 := by
  rw [ev_bsub]
  unfold xBsub
  rw [h0]
  simp only
  rw [h1, ok_bind, h2]
  simp only
  rw [h3]; rfl
theorem bi_of {b : Bi} {a : M} {x d : D} (h1 : evE c a e = .ok x e1) (h2 : biD b [x] = some d) : evE c (.bi b (.cons false a .nil)) e = .ok d e1 := by
  rw [ev_bi, es_of h1 es_end, ok_bind, h2]; rfl
theorem cmp_of {o : CmpOp} {a b : M} {x y : D} {t : Bool} {e2 : En} (h1 : evE c a e = .ok x e1) (h2 : evE c b e1 = .ok y e2) (h3 : cmpD o x y = some t) : evE c (.cmp a o b) e = .ok (.bl t) e2 := by
  rw [ev_cmp, h1, ok_bind, h2, ok_bind, h3]; rfl
theorem bop_of {o : Operator} {a b : M} {x y d : D} {e2 : En} (h1 : evE c a e = .ok x e1) (h2 : evE c b e1 = .ok y e2) (h3 : bopD o x y = some d) : evE c (.bop o a b) e = .ok d e2 := by
  rw [ev_bop, h1, ok_bind, h2, ok_bind, h3]; rfl
theorem setA_of {i x k j : Nat} {a : M} {d : D} {fs : List (Option D)} (h1 : evE c a e = .ok d e1) (h2 : gt e1 i = .ob j fs) (h3 : c.at_ j x = some (.fld k)) : evS c (.setA i x a) e = .nx (e1.set i (.ob j ((fs ++ List.replicate (k + 1 - fs.length) none).set k (some d)))) := by
  rw [s_setA]
  unfold sSetA
  rw [h1, ok_fl, h2]
  simp only
  rw [h3]
  simp only
  rw [st_eq]
theorem v_md {i : Nat} {xs : List (Key × D)} (h : gt e i = .md xs) (hl : c.lent i = false) : evE c (.v i) e = .ok (.dct xs) (e.set i (.val (.dct xs))) := by
  rw [ev_v]; unfold xV; rw [h]; simp only; rw [hl, st_eq]; rfl
theorem nodup_map {α β : Type} {f : α → β} (hf : ∀ a b, f a = f b → a = b) : ∀ {l : List α}, l.Nodup → (l.map f).Nodup
  | [], _ => List.nodup_nil
  | x :: l, h => by
    rw [List.nodup_cons] at h
    rw [List.map_cons, List.nodup_cons]
    refine ⟨fun z => ?_, nodup_map hf h.2⟩
    obtain ⟨y, hy, e⟩ := List.mem_map.mp z
    exact h.1 (hf _ _ e ▸ hy)
end
end Mi
end
section
/-! the terms of the text (printed by gen.py) -/
namespace Lk55
open PySem L2 Mi
def top (i : Nat) : Stmt := PySem.Challenge.pw_orderplaced_k55_placings.main.body.getD i (.Pass ⟨0, 0, 0, 0⟩)
def sub (s : Stmt) (i : Nat) : Stmt := match s with | .ClassDef _ _ _ b _ _ _ _ _ _ _ => b.getD i (.Pass ⟨0, 0, 0, 0⟩) | _ => s
def b1 : Ss := (.cons (.whl (.k (.bl true)) (.cons .pass .nil)) .nil)
def f1 : Fn := ⟨1, 1, [], false, false, b1⟩
def e1 : Ent := ⟨"_wall", 1, ⟨["k"], "_wall", top 0⟩⟩
def b342 : Ss := (.cons (.ret (.bool true (.cons false (.isi (.v 0) [.int]) (.cons false (.not (.isi (.v 0) [.bool])) .nil)))) .nil)
def f342 : Fn := ⟨1, 1, [], false, false, b342⟩
def e342 : Ent := ⟨"is_number", 342, ⟨["value"], "is_number", top 10⟩⟩
def b343 : Ss := (.cons (.ret (.bool true (.cons false (.call 342 (.cons false (.v 0) .nil)) (.cons false (.cmp (.v 0) .GtE (.k (.int 0))) .nil)))) .nil)
def f343 : Fn := ⟨1, 1, [], false, false, b343⟩
def e343 : Ent := ⟨"is_count", 343, ⟨["value"], "is_count", top 11⟩⟩
def b344 : Ss := (.cons (.ife (.bool false (.cons false (.not (.isi (.v 0) [.str])) (.cons false (.not (.cmp2 (.k (.int 1)) .LtE (.bi .len (.cons false (.v 0) .nil)) .LtE (.g 120))) .nil))) (.cons (.ret (.k (.bl false))) .nil) .nil) (.cons (.ret (.bi .all (.cons false (.comp [1] (.cmp (.v 1) .In (.g 118)) (.n 1) (.e (.v 0)) .nil) .nil))) .nil))
def f344 : Fn := ⟨2, 1, [], false, false, b344⟩
def e344 : Ent := ⟨"is_name", 344, ⟨["value", "letter"], "is_name", top 12⟩⟩
def b347 : Ss := (.cons (.ret (.ite (.isi (.v 0) [.list, .tuple]) (.bi .tuple (.cons false (.comp [1] (.call 347 (.cons false (.v 1) .nil)) (.n 1) (.e (.v 0)) .nil) .nil)) (.v 0))) .nil)
def f347 : Fn := ⟨2, 1, [], false, false, b347⟩
def e347 : Ent := ⟨"tupled", 347, ⟨["value", "part"], "tupled", top 13⟩⟩
def b349 : Ss := (.cons (.ife (.bool false (.cons false (.cmp (.v 0) .Eq (.k (.str ("" : PySem.Str)))) (.cons false (.not (.bi .all (.cons false (.comp [1] (.cmp (.v 1) .In (.g 119)) (.n 1) (.e (.v 0)) .nil) .nil))) (.cons false (.bool true (.cons false (.cmp (.sub (.v 0) (.k (.int 0))) .Eq (.k (.str ("0" : PySem.Str)))) (.cons false (.cmp (.v 0) .NotEq (.k (.str ("0" : PySem.Str)))) .nil))) .nil)))) (.cons (.ret (.k .non)) .nil) .nil) (.cons (.ret (.bi .int (.cons false (.v 0) .nil))) .nil))
def f349 : Fn := ⟨2, 1, [], false, false, b349⟩
def e349 : Ent := ⟨"number_in", 349, ⟨["word", "sign"], "number_in", top 14⟩⟩
def b292 : Ss := (.cons (.ret (.bool true (.cons false (.isi (.v 1) [.tuple]) (.cons false (.cmp (.bi .len (.cons false (.v 1) .nil)) .Eq (.olen (.v 0))) (.cons false (.bi .all (.cons false (.comp [2] (.call 343 (.cons false (.v 2) .nil)) (.n 2) (.e (.v 1)) .nil) .nil)) .nil))))) .nil)
def f292 : Fn := ⟨3, 2, [], false, false, b292⟩
def e292 : Ent := ⟨"is_sizes", 292, ⟨["plan", "thing", "size"], "is_sizes", top 16⟩⟩
def b293 : Ss := (.cons (.ret (.px .dzip (.cons false (.attr (.v 0) 3) (.cons false (.v 1) .nil)))) .nil)
def f293 : Fn := ⟨2, 2, [], false, true, b293⟩
def e293 : Ent := ⟨"size_table", 293, ⟨["plan", "sizes"], "size_table", top 17⟩⟩
def b297 : Ss := (.cons (.asg 3 (.dcomp [5] (.v 5) (.k (.int 0)) (.n 5) (.e (.v 2)) .nil)) (.cons (.for (.n 4) (.e (.v 2)) (.cons (.for (.t [6, 7]) (.e (.v 0)) (.cons (.setI 3 (.v 7) (.bi .max2 (.cons false (.bsub 3 (.v 7)) (.cons false (.bop .Add (.bsub 3 (.v 6)) (.sub (.v 1) (.v 6))) .nil)))) .nil)) .nil)) (.cons (.ret (.v 3)) .nil)))
def f297 : Fn := ⟨8, 3, [3], false, false, b297⟩
def e297 : Ent := ⟨"ends_below", 297, ⟨["order", "table", "names", "found", "turn", "name", "low", "high"], "ends_below", top 18⟩⟩
def b298 : Ss := (.cons (.ret (.px .tvals (.cons false (.call 297 (.cons false (.call 347 (.cons false (.v 1) .nil)) (.cons false (.call 293 (.cons false (.v 0) (.cons false (.v 2) .nil))) (.cons false (.attr (.v 0) 3) .nil)))) .nil))) .nil)
def f298 : Fn := ⟨3, 3, [], false, false, b298⟩
def e298 : Ent := ⟨"places", 298, ⟨["plan", "order", "sizes"], "places", top 19⟩⟩
def b299 : Ss := (.cons (.ret (.px .maxd (.cons false (.comp [2, 3] (.bop .Add (.v 2) (.v 3)) (.t [2, 3]) (.zip (.cons false (.v 1) (.cons false (.v 0) .nil))) .nil) (.cons false (.k (.int 0)) .nil)))) .nil)
def f299 : Fn := ⟨4, 2, [], false, false, b299⟩
def e299 : Ent := ⟨"height", 299, ⟨["sizes", "places", "place", "size"], "height", top 20⟩⟩
def b300 : Ss := (.cons (.ret (.call 299 (.cons false (.v 2) (.cons false (.call 298 (.cons false (.v 0) (.cons false (.v 1) (.cons false (.v 2) .nil)))) .nil)))) .nil)
def f300 : Fn := ⟨3, 3, [], false, false, b300⟩
def e300 : Ent := ⟨"need", 300, ⟨["plan", "order", "sizes"], "need", top 21⟩⟩
def b302 : Ss := (.cons (.ife (.not (.call 292 (.cons false (.v 0) (.cons false (.v 2) .nil)))) (.cons (.ret (.k (.bl false))) .nil) .nil) (.cons (.asgP [3, 4] (.cons false (.call 293 (.cons false (.v 0) (.cons false (.v 1) .nil))) (.cons false (.call 293 (.cons false (.v 0) (.cons false (.v 2) .nil))) .nil))) (.cons (.for (.t [5, 6]) (.e (.attr (.v 0) 42)) (.cons (.ife (.bool true (.cons false (.cmp (.sub (.v 3) (.v 5)) .Gt (.k (.int 0))) (.cons false (.cmp (.sub (.v 3) (.v 6)) .Gt (.k (.int 0))) .nil))) (.cons (.ife (.bool true (.cons false (.cmp (.bop .Add (.sub (.v 4) (.v 5)) (.sub (.v 3) (.v 5))) .Gt (.sub (.v 4) (.v 6))) (.cons false (.cmp (.bop .Add (.sub (.v 4) (.v 6)) (.sub (.v 3) (.v 6))) .Gt (.sub (.v 4) (.v 5))) .nil))) (.cons (.ret (.k (.bl false))) .nil) .nil) .nil) .nil) .nil)) (.cons (.ret (.k (.bl true))) .nil))))
def f302 : Fn := ⟨7, 3, [], false, false, b302⟩
def e302 : Ent := ⟨"is_placing", 302, ⟨["plan", "sizes", "thing", "size", "place", "one", "other"], "is_placing", top 22⟩⟩
def b303 : Ss := (.cons (.asgP [4, 5] (.cons false (.call 293 (.cons false (.v 0) (.cons false (.v 2) .nil))) (.cons false (.call 293 (.cons false (.v 0) (.cons false (.v 3) .nil))) .nil))) (.cons (.ret (.bi .all (.cons false (.comp [6, 7] (.cmp (.bop .Add (.sub (.v 5) (.v 6)) (.sub (.v 4) (.v 6))) .LtE (.sub (.v 5) (.v 7))) (.t [6, 7]) (.e (.v 1)) .nil) .nil))) .nil))
def f303 : Fn := ⟨8, 4, [], false, false, b303⟩
def e303 : Ent := ⟨"follows", 303, ⟨["plan", "order", "sizes", "places", "size", "place", "low", "high"], "follows", top 23⟩⟩
def b350 : Ss := (.cons (.ife (.bool false (.cons false (.not (.isi (.v 0) [.tuple])) (.cons false (.cmp (.bi .len (.cons false (.v 0) .nil)) .NotEq (.g 124)) (.cons false (.not (.call 344 (.cons false (.sub (.v 0) (.k (.int 0))) .nil))) .nil)))) (.cons (.ret (.k (.bl false))) .nil) .nil) (.cons (.ret (.bool true (.cons false (.call 343 (.cons false (.sub (.v 0) (.k (.int 1))) .nil)) (.cons false (.call 343 (.cons false (.sub (.v 0) (.k (.int 2))) .nil)) (.cons false (.cmp (.sub (.v 0) (.k (.int 1))) .LtE (.sub (.v 0) (.k (.int 2)))) .nil))))) .nil))
def f350 : Fn := ⟨1, 1, [], false, false, b350⟩
def e350 : Ent := ⟨"is_buffer", 350, ⟨["thing"], "is_buffer", top 29⟩⟩
def b351 : Ss := (.cons (.ret (.bool true (.cons false (.cmp (.sub (.v 0) (.k (.int 1))) .LtE (.sub (.v 1) (.k (.int 2)))) (.cons false (.cmp (.sub (.v 1) (.k (.int 1))) .LtE (.sub (.v 0) (.k (.int 2)))) .nil)))) .nil)
def f351 : Fn := ⟨2, 2, [], false, false, b351⟩
def e351 : Ent := ⟨"do_meet", 351, ⟨["one", "other"], "do_meet", top 30⟩⟩
def b10 : Ss := (.cons (.asg 2 (.ite (.cmp (.v 1) .Lt (.bi .len (.cons false (.v 0) .nil))) (.sub (.v 0) (.v 1)) (.k (.int 0)))) (.cons (.ret (.lst (.cons false (.bop .Mult (.bi .abs (.cons false (.v 2) .nil)) (.bi .int (.cons false (.cmp (.bi .abs (.cons false (.v 2) .nil)) .GtE (.bop .Pow (.k (.int 10)) (.k (.int 18)))) .nil))) (.cons false (.bop .Add (.bop .Add (.bop .Mod (.bi .int (.cons false (.v 2) .nil)) (.k (.int 2305843009213693951))) (.bop .Mult (.k (.int 39373)) (.v 1))) (.k (.int 92955))) (.cons false (.k (.int 0)) .nil))))) .nil))
def f10 : Fn := ⟨3, 2, [], false, true, b10⟩
def e10 : Ent := ⟨"_law_box", 10, ⟨["_law_script", "_law_k", "_law_cell"], "_law_box", top 33⟩⟩
def b11 : Ss := (.cons (.ife (.cmp (.bsub 0 (.k (.int 0))) .Gt (.k (.int 0))) (.cons (.asg 5 (.bop .Mod (.bi .int (.cons false (.bsub 0 (.k (.int 0))) .nil)) (.v 1))) (.cons (.setI 0 (.k (.int 0)) (.bop .FloorDiv (.bsub 0 (.k (.int 0))) (.v 1))) (.cons (.ret (.v 5)) .nil))) .nil) (.cons (.setI 0 (.k (.int 2)) (.bop .Add (.bsub 0 (.k (.int 2))) (.k (.int 1)))) (.cons (.asg 2 (.bop .Mod (.bi .int (.cons false (.bop .Mult (.bop .Add (.bsub 0 (.k (.int 1))) (.bop .Mult (.k (.int 48271)) (.bsub 0 (.k (.int 2))))) (.bop .Add (.k (.int 39373)) (.bsub 0 (.k (.int 2))))) .nil)) (.k (.int 2147483647)))) (.cons (.asg 3 (.bop .Add (.bop .Mod (.bi .int (.cons false (.v 2) .nil)) (.k (.int 40009))) (.k (.int 7)))) (.cons (.asg 4 (.bop .Mod (.bi .int (.cons false (.bop .Mult (.bop .Add (.bop .Add (.v 2) (.bsub 0 (.k (.int 2)))) (.bop .FloorDiv (.bsub 0 (.k (.int 1))) (.k (.int 1000003)))) (.v 3)) .nil)) (.k (.int 2147483629)))) (.cons (.ret (.bop .Mod (.bi .int (.cons false (.bop .FloorDiv (.bop .Mod (.bi .int (.cons false (.bop .Add (.bop .Mult (.v 4) (.k (.int 48271))) (.v 2)) .nil)) (.k (.int 2147483587))) (.k (.int 64))) .nil)) (.v 1))) .nil))))))
def f11 : Fn := ⟨6, 2, [0], true, false, b11⟩
def e11 : Ent := ⟨"_law_take", 11, ⟨["_law_box_here", "_law_size_so", "_law_once", "_law_far", "_law_again", "_law_some"], "_law_take", top 34⟩⟩
def b12 : Ss := (.cons (.asg 2 (.bool false (.cons false (.bi .list (.cons false (.sl (.v 0) .nil (.cons false (.v 1) .nil)) .nil)) (.cons false (.lst (.cons false (.k (.int 0)) .nil)) .nil)))) (.cons (.for (.t [3, 4]) (.enum (.sl (.v 0) (.cons false (.v 1) .nil) (.cons false (.k (.int 63)) .nil))) (.cons (.asg 5 (.bop .Mod (.bi .int (.cons false (.v 3) .nil)) (.v 1))) (.cons (.setI 2 (.v 5) (.bop .Add (.bsub 2 (.v 5)) (.bop .Mult (.v 4) (.bop .Add (.v 3) (.k (.int 2)))))) .nil))) (.cons (.ret (.v 2)) .nil)))
def f12 : Fn := ⟨6, 2, [2], false, false, b12⟩
def e12 : Ent := ⟨"_law_cells", 12, ⟨["_law_script", "_law_top_so", "_law_cells_so", "_law_k", "_law_cell", "_law_at_so"], "_law_cells", top 35⟩⟩
def b13 : Ss := (.cons (.ret (.sub (.v 1) (.call 11 (.cons false (.v 0) (.cons false (.bi .len (.cons false (.v 1) .nil)) .nil))))) .nil)
def f13 : Fn := ⟨2, 2, [0], true, false, b13⟩
def e13 : Ent := ⟨"_law_of", 13, ⟨["_law_box_here", "_law_goods_so"], "_law_of", top 36⟩⟩
def b14 : Ss := (.cons (.asgP [4, 5] (.cons false (.bi .list (.cons false (.v 1) .nil)) (.cons false (.lst .nil) .nil))) (.cons (.for (.n 3) (.rng (.cons false (.bi .min2 (.cons false (.bi .int (.cons false (.v 2) .nil)) (.cons false (.blen 4) .nil))) .nil)) (.cons (.app 5 (.pop 4 (.cons false (.call 11 (.cons false (.v 0) (.cons false (.blen 4) .nil))) .nil))) .nil)) (.cons (.ret (.v 5)) .nil)))
def f14 : Fn := ⟨6, 3, [0, 4, 5], true, false, b14⟩
def e14 : Ent := ⟨"_law_pick", 14, ⟨["_law_box_here", "_law_goods_so", "_law_count_so", "_law_turn", "_law_pool_so", "_law_found"], "_law_pick", top 37⟩⟩
def b15 : Ss := (.cons (.ife (.isi (.v 1) [.list, .tuple]) (.cons (.ife (.cmp (.isi (.v 0) [.list]) .NotEq (.isi (.v 1) [.list])) (.cons (.ret (.k (.bl false))) .nil) .nil) (.cons (.ife (.cmp (.isi (.v 0) [.tuple]) .NotEq (.isi (.v 1) [.tuple])) (.cons (.ret (.k (.bl false))) .nil) .nil) (.cons (.ret (.bool true (.cons false (.cmp (.bi .len (.cons false (.v 0) .nil)) .Eq (.bi .len (.cons false (.v 1) .nil))) (.cons false (.bi .all (.cons false (.comp [2, 3] (.call 15 (.cons false (.v 2) (.cons false (.v 3) .nil))) (.t [2, 3]) (.zip (.cons false (.v 0) (.cons false (.v 1) .nil))) .nil) .nil)) .nil)))) .nil))) .nil) (.cons (.ife (.bool false (.cons false (.cmp (.v 1) .Is (.k .non)) (.cons false (.isi (.v 1) [.bool, .str]) .nil))) (.cons (.ret (.bool true (.cons false (.cmp (.v 0) .Eq (.v 1)) (.cons false (.cmp (.isi (.v 0) [.bool]) .Eq (.isi (.v 1) [.bool])) (.cons false (.cmp (.cmp (.v 0) .Is (.k .non)) .Eq (.cmp (.v 1) .Is (.k .non))) .nil))))) .nil) .nil) (.cons (.ret (.bool true (.cons false (.isi (.v 0) [.int]) (.cons false (.not (.isi (.v 0) [.bool])) (.cons false (.cmp (.v 0) .Eq (.v 1)) .nil))))) .nil)))
def f15 : Fn := ⟨4, 2, [], false, false, b15⟩
def e15 : Ent := ⟨"_law_same", 15, ⟨["_law_got", "_law_due", "_law_mine", "_law_its"], "_law_same", top 38⟩⟩
def b16 : Ss := (.cons (.ret (.ite (.isi (.v 0) [.list, .tuple]) (.comp [1] (.call 16 (.cons false (.v 1) .nil)) (.n 1) (.e (.v 0)) .nil) (.v 0))) .nil)
def f16 : Fn := ⟨2, 1, [], false, false, b16⟩
def e16 : Ent := ⟨"_law_lists", 16, ⟨["_law_matter", "_law_bit"], "_law_lists", top 39⟩⟩
def b1000 : Ss := (.cons (.ret (.bool true (.cons false (.cmp (.sub (.v 0) (.k (.int 1))) .LtE (.sub (.v 1) (.k (.int 2)))) (.cons false (.cmp (.sub (.v 1) (.k (.int 1))) .LtE (.sub (.v 0) (.k (.int 2)))) .nil)))) .nil)
def f1000 : Fn := ⟨2, 2, [], false, false, b1000⟩
def e1000 : Ent := ⟨"_law_meet", 1000, ⟨["_law_one", "_law_other"], "_law_meet", top 40⟩⟩
def b1001 : Ss := (.cons (.asg 2 (.lst .nil)) (.cons (.for (.n 3) (.e (.call 14 (.cons false (.v 0) (.cons false (.lst (.cons false (.k (.str ("a" : PySem.Str))) (.cons false (.k (.str ("b" : PySem.Str))) (.cons false (.k (.str ("c" : PySem.Str))) (.cons false (.k (.str ("dd" : PySem.Str))) (.cons false (.k (.str ("e" : PySem.Str))) (.cons false (.k (.str ("zoe" : PySem.Str))) .nil))))))) (.cons false (.bop .Add (.k (.int 1)) (.call 11 (.cons false (.v 0) (.cons false (.v 1) .nil)))) .nil))))) (.cons (.asg 4 (.call 11 (.cons false (.v 0) (.cons false (.k (.int 7)) .nil)))) (.cons (.app 2 (.tup (.cons false (.v 3) (.cons false (.v 4) (.cons false (.bop .Add (.v 4) (.call 13 (.cons false (.v 0) (.cons false (.lst (.cons false (.k (.int 0)) (.cons false (.k (.int 1)) (.cons false (.k (.int 1)) (.cons false (.k (.int 2)) (.cons false (.k (.int 3)) .nil)))))) .nil)))) .nil))))) .nil))) (.cons (.ret (.bi .tuple (.cons false (.bi .sorted (.cons false (.v 2) .nil)) .nil))) .nil)))
def f1001 : Fn := ⟨5, 2, [0, 2], true, false, b1001⟩
def e1001 : Ent := ⟨"_law_host", 1001, ⟨["_law_box_here", "_law_most_so", "_law_found", "_law_tag", "_law_low"], "_law_host", top 41⟩⟩
def b1002 : Ss := (.cons (.asgP [2, 3, 4] (.cons false (.bi .list (.cons false (.v 1) .nil)) (.cons false (.lst .nil) (.cons false (.lst .nil) .nil)))) (.cons (.whl (.bcmp 2 .NotEq (.lst .nil)) (.cons (.app 3 (.pop 2 (.cons false (.call 11 (.cons false (.v 0) (.cons false (.blen 2) .nil))) .nil))) .nil)) (.cons (.for (.t [5, 6]) (.enum (.v 3)) (.cons (.asg 4 (.bop .Add (.v 4) (.comp [7] (.tup (.cons false (.sub (.v 7) (.k (.int 0))) (.cons false (.sub (.v 6) (.k (.int 0))) .nil))) (.n 7) (.e (.sl (.v 3) .nil (.cons false (.v 5) .nil))) (.cons false (.call 1000 (.cons false (.v 7) (.cons false (.v 6) .nil))) .nil)))) .nil)) (.cons (.ret (.bi .tuple (.cons false (.bi .sorted (.cons false (.v 4) .nil)) .nil))) .nil))))
def f1002 : Fn := ⟨8, 2, [0, 2, 3], true, false, b1002⟩
def e1002 : Ent := ⟨"_law_order", 1002, ⟨["_law_box_here", "_law_host_here", "_law_rest", "_law_row", "_law_found", "_law_k", "_law_high", "_law_low"], "_law_order", top 42⟩⟩
def b1003 : Ss := (.cons (.ret (.comp [1] (.sub (.v 1) (.k (.int 0))) (.n 1) (.e (.v 0)) .nil)) .nil)
def f1003 : Fn := ⟨2, 1, [], false, true, b1003⟩
def e1003 : Ent := ⟨"_law_tags", 1003, ⟨["_law_host_here", "_law_own"], "_law_tags", top 43⟩⟩
def b1004 : Ss := (.cons (.ret (.bi .tuple (.cons false (.comp [3] (.call 13 (.cons false (.v 0) (.cons false (.v 2) .nil))) (.n 3) (.e (.v 1)) .nil) .nil))) .nil)
def f1004 : Fn := ⟨4, 3, [0], true, false, b1004⟩
def e1004 : Ent := ⟨"_law_sizes", 1004, ⟨["_law_box_here", "_law_host_here", "_law_goods", "_law_own"], "_law_sizes", top 44⟩⟩
def b1005 : Ss := (.cons (.for (.t [3, 4]) (.enum (.v 0)) (.cons (.asg 5 (.px .rng2 (.cons false (.sub (.v 2) (.v 3)) (.cons false (.bop .Add (.sub (.v 2) (.v 3)) (.sub (.v 1) (.v 3))) .nil)))) (.cons (.for (.t [6, 7]) (.enum (.sl (.v 0) .nil (.cons false (.v 3) .nil))) (.cons (.asg 8 (.comp [9] (.v 9) (.n 9) (.e (.v 5)) (.cons false (.cmp2 (.sub (.v 2) (.v 6)) .LtE (.v 9) .Lt (.bop .Add (.sub (.v 2) (.v 6)) (.sub (.v 1) (.v 6)))) .nil))) (.cons (.ife (.bool true (.cons false (.call 1000 (.cons false (.v 4) (.cons false (.v 7) .nil))) (.cons false (.cmp (.v 8) .NotEq (.lst .nil)) .nil))) (.cons (.ret (.k (.bl false))) .nil) .nil) .nil))) .nil))) (.cons (.ret (.k (.bl true))) .nil))
def f1005 : Fn := ⟨10, 3, [], false, false, b1005⟩
def e1005 : Ent := ⟨"_law_is", 1005, ⟨["_law_host_here", "_law_sizes_so", "_law_spots", "_law_k", "_law_own", "_law_mine", "_law_j", "_law_far", "_law_both", "_law_c"], "_law_is", top 45⟩⟩
def b1006 : Ss := (.cons (.asgP [4, 5] (.cons false (.call 354 (.cons false (.v 1) .nil)) (.cons false (.call 1002 (.cons false (.v 0) (.cons false (.v 1) .nil))) .nil))) (.cons (.asg 2 (.call 1004 (.cons false (.v 0) (.cons false (.v 1) (.cons false (.lst (.cons false (.k (.int 0)) (.cons false (.k (.int 1)) (.cons false (.k (.int 2)) (.cons false (.k (.int 4)) .nil))))) .nil))))) (.cons (.asgP [6, 7] (.cons false (.call 1003 (.cons false (.v 1) .nil)) (.cons false (.bi .list (.cons false (.v 2) .nil)) .nil))) (.cons (.for (.n 3) (.rng (.cons false (.k (.int 4)) .nil)) (.cons (.asg 8 (.bi .tuple (.cons false (.comp [16] (.call 11 (.cons false (.v 0) (.cons false (.k (.int 10)) .nil))) (.n 16) (.e (.v 1)) .nil) .nil))) (.cons (.ife (.cmp (.v 3) .Gt (.k (.int 1))) (.cons (.asg 8 (.bi .tuple (.cons false (.comp [16] (.bop .Add (.v 16) (.call 11 (.cons false (.v 0) (.cons false (.k (.int 2)) .nil)))) (.n 16) (.e (.call 298 (.cons false (.v 4) (.cons false (.v 5) (.cons false (.v 2) .nil))))) .nil) .nil))) .nil) .nil) (.cons (.asg 9 (.bi .max1 (.cons false (.comp [17] (.bop .Add (.sub (.v 8) (.v 17)) (.sub (.v 2) (.v 17))) (.n 17) (.rng (.cons false (.bi .len (.cons false (.v 1) .nil)) .nil)) .nil) .nil))) (.cons (.asg 10 (.px .dzip (.cons false (.v 6) (.cons false (.v 8) .nil)))) (.cons (.asg 11 (.px .dzip (.cons false (.v 6) (.cons false (.comp [17] (.bop .Add (.sub (.v 8) (.v 17)) (.sub (.v 2) (.v 17))) (.n 17) (.rng (.cons false (.bi .len (.cons false (.v 6) .nil)) .nil)) .nil) .nil)))) (.cons (.asg 12 (.cmp (.comp [18] (.v 18) (.n 18) (.e (.v 5)) (.cons false (.cmp (.sub (.v 11) (.sub (.v 18) (.k (.int 0)))) .Gt (.sub (.v 10) (.sub (.v 18) (.k (.int 1))))) .nil)) .Eq (.lst .nil))) (.cons (.asg 13 (.lst (.cons false (.call 302 (.cons false (.v 4) (.cons false (.v 2) (.cons false (.v 8) .nil)))) (.cons false (.callk 302 (.cons false (.v 8) (.cons false (.v 7) (.cons false (.v 4) .nil))) [2, 1, 0]) (.cons false (.call 299 (.cons false (.v 2) (.cons false (.v 8) .nil))) (.cons false (.callk 299 (.cons false (.bi .list (.cons false (.v 8) .nil)) (.cons false (.v 7) .nil)) [1, 0]) .nil)))))) (.cons (.asg 13 (.bop .Add (.v 13) (.lst (.cons false (.call 303 (.cons false (.v 4) (.cons false (.v 5) (.cons false (.v 2) (.cons false (.v 8) .nil))))) (.cons false (.callk 303 (.cons false (.bi .list (.cons false (.v 8) .nil)) (.cons false (.v 7) (.cons false (.call 16 (.cons false (.v 5) .nil)) (.cons false (.v 4) .nil)))) [3, 2, 1, 0]) .nil))))) (.cons (.asg 14 (.call 1005 (.cons false (.v 1) (.cons false (.v 2) (.cons false (.v 8) .nil))))) (.cons (.ife (.bool false (.cons false (.not (.call 15 (.cons false (.v 13) (.cons false (.lst (.cons false (.v 14) (.cons false (.v 14) (.cons false (.v 9) (.cons false (.v 9) (.cons false (.v 12) (.cons false (.v 12) .nil))))))) .nil)))) (.cons false (.bool true (.cons false (.v 12) (.cons false (.bool false (.cons false (.not (.v 14)) (.cons false (.cmp (.v 9) .Lt (.call 300 (.cons false (.v 4) (.cons false (.v 5) (.cons false (.v 2) .nil))))) .nil))) .nil))) .nil))) (.cons (.ret (.k (.bl false))) .nil) .nil) (.cons (.asg 15 (.lst (.cons false (.bi .list (.cons false (.v 8) .nil)) (.cons false (.bop .Add (.v 8) (.tup (.cons false (.k (.int 0)) .nil))) (.cons false (.sl (.v 8) (.cons false (.k (.int 1)) .nil) .nil) (.cons false (.bop .Add (.sl (.v 8) .nil (.cons false (.neg (.k (.int 1))) .nil)) (.tup (.cons false (.neg (.k (.int 1))) .nil))) (.cons false (.bop .Add (.sl (.v 8) .nil (.cons false (.neg (.k (.int 1))) .nil)) (.tup (.cons false (.k (.bl false)) .nil))) (.cons false (.bop .Add (.sl (.v 8) .nil (.cons false (.neg (.k (.int 1))) .nil)) (.tup (.cons false (.k .non) .nil))) (.cons false (.k .non) (.cons false (.tup (.cons false (.v 8) .nil)) (.cons false (.k (.str ("0" : PySem.Str))) .nil))))))))))) (.cons (.ife (.cmp (.comp [16] (.v 16) (.n 16) (.e (.v 15)) (.cons false (.call 302 (.cons false (.v 4) (.cons false (.v 2) (.cons false (.v 16) .nil)))) .nil)) .NotEq (.lst .nil)) (.cons (.ret (.k (.bl false))) .nil) .nil) .nil))))))))))))) (.cons (.ret (.k (.bl true))) .nil)))))
def f1006 : Fn := ⟨19, 2, [0], true, false, b1006⟩
def e1006 : Ent := ⟨"_law_case_right", 1006, ⟨["_law_box_here", "_law_host_here", "_law_sizes_so", "_law_lap", "_law_plan_so", "_law_order_so", "_law_tags_here", "_law_soft", "_law_spots", "_law_tall", "_law_begin", "_law_ends_so", "_law_goes", "_law_got", "_law_fine", "_law_things", "_law_own", "_law_k", "_law_pair"], "_law_case_right", top 46⟩⟩
def b1007 : Ss := (.cons (.asg 0 (.tup (.cons false (.tup (.cons false (.k (.str ("a" : PySem.Str))) (.cons false (.k (.int 0)) (.cons false (.k (.int 1)) .nil)))) (.cons false (.tup (.cons false (.k (.str ("b" : PySem.Str))) (.cons false (.k (.int 1)) (.cons false (.k (.int 2)) .nil)))) (.cons false (.tup (.cons false (.k (.str ("c" : PySem.Str))) (.cons false (.k (.int 2)) (.cons false (.k (.int 3)) .nil)))) .nil))))) (.cons (.asgP [8, 9] (.cons false (.tup (.cons false (.tup (.cons false (.k (.str ("a" : PySem.Str))) (.cons false (.k (.str ("b" : PySem.Str))) .nil))) (.cons false (.tup (.cons false (.k (.str ("b" : PySem.Str))) (.cons false (.k (.str ("c" : PySem.Str))) .nil))) .nil))) (.cons false (.tup (.cons false (.tup (.cons false (.k (.str ("a" : PySem.Str))) (.cons false (.k (.str ("b" : PySem.Str))) .nil))) (.cons false (.tup (.cons false (.k (.str ("c" : PySem.Str))) (.cons false (.k (.str ("b" : PySem.Str))) .nil))) .nil))) .nil))) (.cons (.asg 1 (.call 354 (.cons false (.v 0) .nil))) (.cons (.asg 2 (.lst (.cons false (.tup (.cons false (.tup (.cons false (.k (.int 2)) (.cons false (.k (.int 3)) (.cons false (.k (.int 4)) .nil)))) (.cons false (.tup (.cons false (.k (.int 0)) (.cons false (.k (.int 4)) (.cons false (.k (.int 0)) .nil)))) .nil))) (.cons false (.tup (.cons false (.tup (.cons false (.k (.int 2)) (.cons false (.k (.int 3)) (.cons false (.k (.int 4)) .nil)))) (.cons false (.tup (.cons false (.k (.int 4)) (.cons false (.k (.int 0)) (.cons false (.k (.int 3)) .nil)))) .nil))) (.cons false (.tup (.cons false (.tup (.cons false (.k (.int 2)) (.cons false (.k (.int 0)) (.cons false (.k (.int 4)) .nil)))) (.cons false (.tup (.cons false (.k (.int 0)) (.cons false (.k (.int 1)) (.cons false (.k (.int 0)) .nil)))) .nil))) (.cons false (.tup (.cons false (.tup (.cons false (.k (.int 0)) (.cons false (.k (.int 0)) (.cons false (.k (.int 0)) .nil)))) (.cons false (.tup (.cons false (.k (.int 7)) (.cons false (.k (.int 7)) (.cons false (.k (.int 7)) .nil)))) .nil))) (.cons false (.tup (.cons false (.tup (.cons false (.k (.int 2)) (.cons false (.k (.int 3)) (.cons false (.k (.int 4)) .nil)))) (.cons false (.tup (.cons false (.k (.int 0)) (.cons false (.k (.int 2)) (.cons false (.k (.int 5)) .nil)))) .nil))) (.cons false (.tup (.cons false (.tup (.cons false (.k (.int 2)) (.cons false (.k (.int 3)) (.cons false (.k (.int 4)) .nil)))) (.cons false (.tup (.cons false (.k (.int 0)) (.cons false (.k (.int 10)) (.cons false (.k (.int 0)) .nil)))) .nil))) .nil)))))))) (.cons (.asg 3 (.lst (.cons false (.tup (.cons false (.tup (.cons false (.k (.int 2)) (.cons false (.k (.int 3)) (.cons false (.k (.int 4)) .nil)))) (.cons false (.tup (.cons false (.k (.int 0)) (.cons false (.k (.int 2)) (.cons false (.k (.int 0)) .nil)))) .nil))) (.cons false (.tup (.cons false (.tup (.cons false (.k (.int 2)) (.cons false (.k (.int 3)) (.cons false (.k (.int 4)) .nil)))) (.cons false (.tup (.cons false (.k (.int 0)) (.cons false (.k (.int 0)) (.cons false (.k (.int 0)) .nil)))) .nil))) (.cons false (.tup (.cons false (.tup (.cons false (.k (.int 1)) (.cons false (.k (.int 1)) (.cons false (.k (.int 1)) .nil)))) (.cons false (.tup (.cons false (.k (.int 0)) (.cons false (.k (.int 0)) (.cons false (.k (.int 1)) .nil)))) .nil))) (.cons false (.tup (.cons false (.tup (.cons false (.k (.int 2)) (.cons false (.k (.int 3)) (.cons false (.k (.int 4)) .nil)))) (.cons false (.tup (.cons false (.k (.int 1)) (.cons false (.k (.int 2)) (.cons false (.k (.int 5)) .nil)))) .nil))) (.cons false (.tup (.cons false (.tup (.cons false (.k (.int 2)) (.cons false (.k (.int 3)) (.cons false (.k (.int 4)) .nil)))) (.cons false (.tup (.cons false (.k (.int 0)) (.cons false (.k (.int 1)) (.cons false (.k (.int 9)) .nil)))) .nil))) (.cons false (.tup (.cons false (.tup (.cons false (.k (.int 3)) (.cons false (.k (.int 1)) (.cons false (.k (.int 1)) .nil)))) (.cons false (.tup (.cons false (.k (.int 0)) (.cons false (.k (.int 2)) (.cons false (.k (.int 0)) .nil)))) .nil))) .nil)))))))) (.cons (.asg 4 (.lst (.cons false (.comp [10] (.call 302 (.cons false (.v 1) (.cons false (.sub (.v 10) (.k (.int 0))) (.cons false (.sub (.v 10) (.k (.int 1))) .nil)))) (.n 10) (.e (.v 2)) .nil) (.cons false (.comp [10] (.call 302 (.cons false (.v 1) (.cons false (.sub (.v 10) (.k (.int 0))) (.cons false (.sub (.v 10) (.k (.int 1))) .nil)))) (.n 10) (.e (.v 3)) .nil) .nil)))) (.cons (.asg 5 (.lst (.cons false (.bop .Mult (.lst (.cons false (.k (.bl true)) .nil)) (.k (.int 6))) (.cons false (.bop .Mult (.lst (.cons false (.k (.bl false)) .nil)) (.k (.int 6))) .nil)))) (.cons (.asg 4 (.bop .Add (.v 4) (.lst (.cons false (.call 299 (.cons false (.tup (.cons false (.k (.int 2)) (.cons false (.k (.int 3)) (.cons false (.k (.int 4)) .nil)))) (.cons false (.tup (.cons false (.k (.int 4)) (.cons false (.k (.int 0)) (.cons false (.k (.int 3)) .nil)))) .nil))) (.cons false (.call 299 (.cons false (.tup (.cons false (.k (.int 2)) (.cons false (.k (.int 0)) (.cons false (.k (.int 4)) .nil)))) (.cons false (.tup (.cons false (.k (.int 0)) (.cons false (.k (.int 9)) (.cons false (.k (.int 0)) .nil)))) .nil))) (.cons false (.call 299 (.cons false (.tup .nil) (.cons false (.tup .nil) .nil))) (.cons false (.call 299 (.cons false (.tup (.cons false (.k (.int 0)) (.cons false (.k (.int 0)) .nil))) (.cons false (.tup (.cons false (.k (.int 0)) (.cons false (.k (.int 5)) .nil))) .nil))) (.cons false (.call 302 (.cons false (.call 5354 .nil) (.cons false (.tup .nil) (.cons false (.tup .nil) .nil)))) (.cons false (.call 303 (.cons false (.call 5354 .nil) (.cons false (.tup .nil) (.cons false (.tup .nil) (.cons false (.tup .nil) .nil))))) .nil))))))))) (.cons (.asg 5 (.bop .Add (.v 5) (.lst (.cons false (.k (.int 7)) (.cons false (.k (.int 9)) (.cons false (.k (.int 0)) (.cons false (.k (.int 5)) (.cons false (.k (.bl true)) (.cons false (.k (.bl true)) .nil))))))))) (.cons (.asg 4 (.bop .Add (.v 4) (.lst (.cons false (.comp [10] (.call 303 (.cons false (.v 1) (.cons false (.v 10) (.cons false (.tup (.cons false (.k (.int 2)) (.cons false (.k (.int 3)) (.cons false (.k (.int 4)) .nil)))) (.cons false (.tup (.cons false (.k (.int 0)) (.cons false (.k (.int 4)) (.cons false (.k (.int 0)) .nil)))) .nil))))) (.n 10) (.e (.tup (.cons false (.v 9) (.cons false (.v 8) .nil)))) .nil) (.cons false (.comp [10] (.call 303 (.cons false (.v 1) (.cons false (.v 8) (.cons false (.tup (.cons false (.k (.int 2)) (.cons false (.k (.int 3)) (.cons false (.k (.int 4)) .nil)))) (.cons false (.v 10) .nil))))) (.n 10) (.e (.tup (.cons false (.tup (.cons false (.k (.int 1)) (.cons false (.k (.int 3)) (.cons false (.k (.int 7)) .nil)))) (.cons false (.tup (.cons false (.k (.int 0)) (.cons false (.k (.int 2)) (.cons false (.k (.int 5)) .nil)))) (.cons false (.tup (.cons false (.k (.int 0)) (.cons false (.k (.int 2)) (.cons false (.k (.int 4)) .nil)))) (.cons false (.tup (.cons false (.k (.int 0)) (.cons false (.k (.int 1)) (.cons false (.k (.int 9)) .nil)))) (.cons false (.tup (.cons false (.k (.int 0)) (.cons false (.k (.int 9)) (.cons false (.k (.int 9)) .nil)))) .nil))))))) .nil) .nil))))) (.cons (.asg 5 (.bop .Add (.v 5) (.lst (.cons false (.lst (.cons false (.k (.bl true)) (.cons false (.k (.bl false)) .nil))) (.cons false (.lst (.cons false (.k (.bl true)) (.cons false (.k (.bl true)) (.cons false (.k (.bl false)) (.cons false (.k (.bl false)) (.cons false (.k (.bl false)) .nil)))))) .nil))))) (.cons (.asg 6 (.call 354 (.cons false (.tup (.cons false (.tup (.cons false (.k (.str ("c" : PySem.Str))) (.cons false (.k (.int 2)) (.cons false (.k (.int 3)) .nil)))) (.cons false (.tup (.cons false (.k (.str ("a" : PySem.Str))) (.cons false (.k (.int 0)) (.cons false (.k (.int 1)) .nil)))) (.cons false (.tup (.cons false (.k (.str ("b" : PySem.Str))) (.cons false (.k (.int 1)) (.cons false (.k (.int 2)) .nil)))) .nil)))) .nil))) (.cons (.asg 4 (.bop .Add (.v 4) (.lst (.cons false (.call 302 (.cons false (.v 6) (.cons false (.tup (.cons false (.k (.int 4)) (.cons false (.k (.int 3)) (.cons false (.k (.int 2)) .nil)))) (.cons false (.tup (.cons false (.k (.int 0)) (.cons false (.k (.int 4)) (.cons false (.k (.int 0)) .nil)))) .nil)))) (.cons false (.call 302 (.cons false (.v 6) (.cons false (.tup (.cons false (.k (.int 4)) (.cons false (.k (.int 3)) (.cons false (.k (.int 2)) .nil)))) (.cons false (.tup (.cons false (.k (.int 0)) (.cons false (.k (.int 2)) (.cons false (.k (.int 0)) .nil)))) .nil)))) (.cons false (.call 302 (.cons false (.v 6) (.cons false (.tup (.cons false (.k (.int 2)) (.cons false (.k (.int 3)) (.cons false (.k (.int 4)) .nil)))) (.cons false (.tup (.cons false (.k (.int 0)) (.cons false (.k (.int 2)) (.cons false (.k (.int 5)) .nil)))) .nil)))) (.cons false (.call 303 (.cons false (.v 6) (.cons false (.v 8) (.cons false (.tup (.cons false (.k (.int 2)) (.cons false (.k (.int 3)) (.cons false (.k (.int 4)) .nil)))) (.cons false (.tup (.cons false (.k (.int 0)) (.cons false (.k (.int 2)) (.cons false (.k (.int 5)) .nil)))) .nil))))) .nil))))))) (.cons (.asg 5 (.bop .Add (.v 5) (.lst (.cons false (.k (.bl true)) (.cons false (.k (.bl false)) (.cons false (.k (.bl true)) (.cons false (.k (.bl true)) .nil))))))) (.cons (.asg 7 (.bop .Pow (.k (.int 10)) (.k (.int 30)))) (.cons (.asg 4 (.bop .Add (.v 4) (.lst (.cons false (.call 303 (.cons false (.v 1) (.cons false (.v 8) (.cons false (.tup (.cons false (.k (.int 5)) (.cons false (.k (.int 0)) (.cons false (.k (.int 1)) .nil)))) (.cons false (.tup (.cons false (.k (.int 0)) (.cons false (.k (.int 4)) (.cons false (.k (.int 4)) .nil)))) .nil))))) (.cons false (.call 302 (.cons false (.v 1) (.cons false (.tup (.cons false (.k (.int 5)) (.cons false (.k (.int 0)) (.cons false (.k (.int 1)) .nil)))) (.cons false (.tup (.cons false (.k (.int 0)) (.cons false (.k (.int 4)) (.cons false (.k (.int 4)) .nil)))) .nil)))) (.cons false (.call 303 (.cons false (.v 1) (.cons false (.v 8) (.cons false (.tup (.cons false (.k (.int 0)) (.cons false (.k (.int 0)) (.cons false (.k (.int 0)) .nil)))) (.cons false (.tup (.cons false (.k (.int 0)) (.cons false (.k (.int 0)) (.cons false (.k (.int 0)) .nil)))) .nil))))) (.cons false (.call 303 (.cons false (.v 1) (.cons false (.v 8) (.cons false (.tup (.cons false (.k (.int 0)) (.cons false (.k (.int 0)) (.cons false (.k (.int 0)) .nil)))) (.cons false (.tup (.cons false (.k (.int 1)) (.cons false (.k (.int 0)) (.cons false (.k (.int 0)) .nil)))) .nil))))) .nil))))))) (.cons (.asg 5 (.bop .Add (.v 5) (.lst (.cons false (.k (.bl false)) (.cons false (.k (.bl true)) (.cons false (.k (.bl true)) (.cons false (.k (.bl false)) .nil))))))) (.cons (.asg 4 (.bop .Add (.v 4) (.lst (.cons false (.call 302 (.cons false (.v 1) (.cons false (.tup (.cons false (.v 7) (.cons false (.v 7) (.cons false (.v 7) .nil)))) (.cons false (.tup (.cons false (.k (.int 0)) (.cons false (.v 7) (.cons false (.k (.int 0)) .nil)))) .nil)))) (.cons false (.call 302 (.cons false (.v 1) (.cons false (.tup (.cons false (.v 7) (.cons false (.v 7) (.cons false (.v 7) .nil)))) (.cons false (.tup (.cons false (.k (.int 1)) (.cons false (.v 7) (.cons false (.k (.int 0)) .nil)))) .nil)))) (.cons false (.call 299 (.cons false (.tup (.cons false (.v 7) (.cons false (.k (.int 1)) .nil))) (.cons false (.tup (.cons false (.v 7) (.cons false (.v 7) .nil))) .nil))) (.cons false (.call 303 (.cons false (.v 1) (.cons false (.v 9) (.cons false (.tup (.cons false (.v 7) (.cons false (.k (.int 1)) (.cons false (.v 7) .nil)))) (.cons false (.tup (.cons false (.k (.int 0)) (.cons false (.v 7) (.cons false (.k (.int 0)) .nil)))) .nil))))) .nil))))))) (.cons (.asg 5 (.bop .Add (.v 5) (.lst (.cons false (.k (.bl true)) (.cons false (.k (.bl false)) (.cons false (.bop .Mult (.k (.int 2)) (.v 7)) (.cons false (.k (.bl true)) .nil))))))) (.cons (.asg 3 (.lst (.cons false (.k .non) (.cons false (.tup (.cons false (.k (.int 0)) (.cons false (.k (.int 4)) .nil))) (.cons false (.tup (.cons false (.k (.int 0)) (.cons false (.k (.int 4)) (.cons false (.k (.int 0)) (.cons false (.k (.int 0)) .nil))))) (.cons false (.lst (.cons false (.k (.int 0)) (.cons false (.k (.int 4)) (.cons false (.k (.int 0)) .nil)))) (.cons false (.tup (.cons false (.k (.int 0)) (.cons false (.k (.int 4)) (.cons false (.neg (.k (.int 1))) .nil)))) (.cons false (.tup (.cons false (.k (.int 0)) (.cons false (.k (.int 4)) (.cons false (.k (.bl true)) .nil)))) (.cons false (.tup (.cons false (.k (.int 0)) (.cons false (.k (.int 4)) (.cons false (.k (.str ("0" : PySem.Str))) .nil)))) (.cons false (.tup (.cons false (.tup (.cons false (.k (.int 0)) (.cons false (.k (.int 4)) (.cons false (.k (.int 0)) .nil)))) .nil)) (.cons false (.k (.int 4)) .nil))))))))))) (.cons (.asg 4 (.bop .Add (.v 4) (.lst (.cons false (.comp [10] (.call 302 (.cons false (.v 1) (.cons false (.tup (.cons false (.k (.int 2)) (.cons false (.k (.int 3)) (.cons false (.k (.int 4)) .nil)))) (.cons false (.v 10) .nil)))) (.n 10) (.e (.v 3)) .nil) (.cons false (.callk 299 (.cons false (.lst (.cons false (.k (.int 4)) (.cons false (.k (.int 0)) (.cons false (.k (.int 3)) .nil)))) (.cons false (.lst (.cons false (.k (.int 2)) (.cons false (.k (.int 3)) (.cons false (.k (.int 4)) .nil)))) .nil)) [1, 0]) (.cons false (.call 303 (.cons false (.v 1) (.cons false (.tup (.cons false (.lst (.cons false (.k (.str ("a" : PySem.Str))) (.cons false (.k (.str ("b" : PySem.Str))) .nil))) (.cons false (.tup (.cons false (.k (.str ("c" : PySem.Str))) (.cons false (.k (.str ("b" : PySem.Str))) .nil))) .nil))) (.cons false (.lst (.cons false (.k (.int 2)) (.cons false (.k (.int 3)) (.cons false (.k (.int 4)) .nil)))) (.cons false (.lst (.cons false (.k (.int 0)) (.cons false (.k (.int 4)) (.cons false (.k (.int 0)) .nil)))) .nil))))) .nil)))))) (.cons (.ret (.call 15 (.cons false (.v 4) (.cons false (.bop .Add (.v 5) (.lst (.cons false (.bop .Mult (.lst (.cons false (.k (.bl false)) .nil)) (.k (.int 9))) (.cons false (.k (.int 7)) (.cons false (.k (.bl true)) .nil))))) .nil)))) .nil))))))))))))))))))))))
def f1007 : Fn := ⟨11, 0, [], false, false, b1007⟩
def e1007 : Ent := ⟨"_law_by_hand_right", 1007, ⟨["_law_host_here", "_law_plan_so", "_law_fine", "_law_odd", "_law_got", "_law_due", "_law_back", "_law_far", "_law_up", "_law_vee", "_law_own"], "_law_by_hand_right", top 47⟩⟩
def b1008 : Ss := (.cons (.ret (.bi .all (.cons false (.comp [1] (.call 1006 (.cons false (.v 0) (.cons false (.call 1001 (.cons false (.v 0) (.cons false (.k (.int 6)) .nil))) .nil))) (.n 1) (.rng (.cons false (.k (.int 10)) .nil)) .nil) .nil))) .nil)
def f1008 : Fn := ⟨2, 1, [0], true, false, b1008⟩
def e1008 : Ent := ⟨"_law_right", 1008, ⟨["_law_box_here", "_law_turn"], "_law_right", top 48⟩⟩
def b9 : Ss := (.cons (.asg 1 (.call 12 (.cons false (.v 0) (.cons false (.k (.int 3)) .nil)))) (.cons (.ret (.bool true (.cons false (.call 1007 .nil) (.cons false (.bi .all (.cons false (.comp [2] (.call 1008 (.cons false (.call 10 (.cons false (.v 1) (.cons false (.v 2) .nil))) .nil)) (.n 2) (.rng (.cons false (.bi .len (.cons false (.v 1) .nil)) .nil)) .nil) .nil)) .nil)))) .nil))
def f9 : Fn := ⟨3, 1, [], false, false, b9⟩
def e9 : Ent := ⟨"law", 9, ⟨["_law_script", "_law_cells_here", "_law_k"], "law", top 49⟩⟩
def b355 : Ss := (.cons (.asg 2 (.px .dnew .nil)) (.cons (.for (.t [3, 4]) (.enum (.call 347 (.cons false (.v 1) .nil))) (.cons (.ife (.bool false (.cons false (.not (.call 350 (.cons false (.v 4) .nil))) (.cons false (.bin false (.sub (.v 4) (.k (.int 0))) 2) .nil))) (.cons (.ret (.bool true .nil)) .nil) .nil) (.cons (.setI 2 (.sub (.v 4) (.k (.int 0))) (.v 4)) .nil))) (.cons (.setA 0 39 (.dcomp [5] (.v 5) (.bsub 2 (.v 5)) (.n 5) (.e (.bi .sorted (.cons false (.v 2) .nil))) .nil)) .nil)))
def f355 : Fn := ⟨6, 2, [2], false, false, b355⟩
def e355 : Met := ⟨"Plan", "__init__", false, 355, ⟨["self", "buffers", "rows", "place", "own", "name"], "Plan.__init__", sub (top 31) 1⟩, [.adr (He.dflAt ("Plan", some "__init__") 0)]⟩
def b357 : Ss := (.cons (.ret (.px .tvals (.cons false (.attr (.v 0) 39) .nil))) .nil)
def f357 : Fn := ⟨1, 1, [], false, false, b357⟩
def e357 : Met := ⟨"Plan", "buffers", true, 357, ⟨["self"], "Plan.buffers", sub (top 31) 3⟩, []⟩
def b358 : Ss := (.cons (.ret (.bi .tuple (.cons false (.attr (.v 0) 39) .nil))) .nil)
def f358 : Fn := ⟨1, 1, [], false, false, b358⟩
def e358 : Met := ⟨"Plan", "names", true, 358, ⟨["self"], "Plan.names", sub (top 31) 4⟩, []⟩
def b359 : Ss := (.cons (.asg 1 (.attr (.v 0) 41)) (.cons (.ret (.bi .tuple (.cons false (.comp2 [2, 3] [3] (.tup (.cons false (.sub (.v 2) (.k (.int 0))) (.cons false (.sub (.v 3) (.k (.int 0))) .nil))) (.n 2) (.e (.v 1)) .nil (.n 3) (.e (.v 1)) (.cons false (.bool true (.cons false (.cmp (.v 2) .Lt (.v 3)) (.cons false (.call 351 (.cons false (.v 2) (.cons false (.v 3) .nil))) .nil))) .nil)) .nil))) .nil))
def f359 : Fn := ⟨4, 1, [], false, false, b359⟩
def e359 : Met := ⟨"Plan", "meetings", true, 359, ⟨["self", "rows", "one", "other"], "Plan.meetings", sub (top 31) 5⟩, []⟩
def b361 : Ss := (.cons (.ret (.bi .len (.cons false (.attr (.v 0) 39) .nil))) .nil)
def f361 : Fn := ⟨1, 1, [], false, false, b361⟩
def e361 : Met := ⟨"Plan", "__len__", false, 361, ⟨["self"], "Plan.__len__", sub (top 31) 7⟩, []⟩
def tF : Tr Fn := (.node (.node (.node (.node (.node (.node .leaf 1 f1 .leaf) 9 f9 .leaf) 10 f10 (.node .leaf 11 f11 .leaf)) 12 f12 (.node (.node (.node .leaf 13 f13 .leaf) 14 f14 .leaf) 15 f15 (.node .leaf 16 f16 .leaf))) 292 f292 (.node (.node (.node (.node .leaf 293 f293 .leaf) 297 f297 .leaf) 298 f298 (.node .leaf 299 f299 .leaf)) 300 f300 (.node (.node (.node .leaf 302 f302 .leaf) 303 f303 .leaf) 342 f342 (.node .leaf 343 f343 .leaf)))) 344 f344 (.node (.node (.node (.node (.node .leaf 347 f347 .leaf) 349 f349 .leaf) 350 f350 (.node .leaf 351 f351 .leaf)) 355 f355 (.node (.node (.node .leaf 357 f357 .leaf) 358 f358 .leaf) 359 f359 (.node .leaf 361 f361 .leaf))) 1000 f1000 (.node (.node (.node (.node .leaf 1001 f1001 .leaf) 1002 f1002 .leaf) 1003 f1003 (.node .leaf 1004 f1004 .leaf)) 1005 f1005 (.node (.node .leaf 1006 f1006 .leaf) 1007 f1007 (.node .leaf 1008 f1008 .leaf)))))
def tP : Tr (List Str) := (.node (.node (.node (.node (.node (.node .leaf 1 ["k"] .leaf) 9 ["_law_script"] .leaf) 10 ["_law_script", "_law_k"] (.node (.node .leaf 11 ["_law_box_here", "_law_size_so"] .leaf) 12 ["_law_script", "_law_top_so"] .leaf)) 13 ["_law_box_here", "_law_goods_so"] (.node (.node (.node .leaf 14 ["_law_box_here", "_law_goods_so", "_law_count_so"] .leaf) 15 ["_law_got", "_law_due"] .leaf) 16 ["_law_matter"] (.node .leaf 292 ["plan", "thing"] .leaf))) 293 ["plan", "sizes"] (.node (.node (.node (.node .leaf 297 ["order", "table", "names"] .leaf) 298 ["plan", "order", "sizes"] .leaf) 299 ["sizes", "places"] (.node .leaf 300 ["plan", "order", "sizes"] .leaf)) 302 ["plan", "sizes", "thing"] (.node (.node (.node .leaf 303 ["plan", "order", "sizes", "places"] .leaf) 342 ["value"] .leaf) 343 ["value"] (.node .leaf 344 ["value"] .leaf)))) 347 ["value"] (.node (.node (.node (.node (.node .leaf 349 ["word"] .leaf) 350 ["thing"] .leaf) 351 ["one", "other"] (.node .leaf 354 ["buffers"] .leaf)) 355 ["self", "buffers"] (.node (.node (.node .leaf 357 ["self"] .leaf) 358 ["self"] .leaf) 359 ["self"] (.node .leaf 361 ["self"] .leaf))) 1000 ["_law_one", "_law_other"] (.node (.node (.node (.node .leaf 1001 ["_law_box_here", "_law_most_so"] .leaf) 1002 ["_law_box_here", "_law_host_here"] .leaf) 1003 ["_law_host_here"] (.node .leaf 1004 ["_law_box_here", "_law_host_here", "_law_goods"] .leaf)) 1005 ["_law_host_here", "_law_sizes_so", "_law_spots"] (.node (.node (.node .leaf 1006 ["_law_box_here", "_law_host_here"] .leaf) 1007 [] .leaf) 1008 ["_law_box_here"] (.node .leaf 5354 [] .leaf)))))
def tC : Tr Mi.D := (.node (.node (.node .leaf 118 (.str ("abcdefghijklmnopqrstuvwxyz" : PySem.Str)) .leaf) 119 (.str ("0123456789" : PySem.Str)) (.node .leaf 120 (.int 8) .leaf)) 121 (.str (" " : PySem.Str)) (.node (.node .leaf 122 (.str ("; " : PySem.Str)) .leaf) 123 (.str ("-" : PySem.Str)) (.node .leaf 124 (.int 3) .leaf)))
def tA : Tr Str := (.node (.node (.node (.node (.node (.node .leaf 0 "__len__" .leaf) 1 "__contains__" (.node .leaf 2 "__init__" .leaf)) 3 "names" (.node (.node .leaf 4 "deeds" .leaf) 5 "__getitem__" .leaf)) 6 "__iter__" (.node (.node (.node .leaf 7 "__eq__" .leaf) 8 "take_over" (.node .leaf 9 "put" .leaf)) 10 "others" (.node (.node .leaf 11 "drop" .leaf) 12 "rename" .leaf))) 13 "add" (.node (.node (.node (.node .leaf 14 "remove" .leaf) 15 "undo" (.node .leaf 16 "twin" .leaf)) 17 "factor" (.node (.node .leaf 18 "worst" .leaf) 19 "ways" .leaf)) 20 "own_states" (.node (.node (.node .leaf 21 "own_told" .leaf) 22 "plan" .leaf) 23 "row" (.node (.node .leaf 24 "told" .leaf) 25 "order" .leaf)))) 26 "greatest" (.node (.node (.node (.node (.node .leaf 27 "take" .leaf) 28 "move" (.node .leaf 29 "change" .leaf)) 30 "back" (.node (.node .leaf 31 "own_plan" .leaf) 32 "own_left" .leaf)) 33 "orders_left" (.node (.node (.node .leaf 34 "tell" .leaf) 35 "sure" (.node .leaf 36 "sure_need" .leaf)) 37 "next_ask" (.node (.node .leaf 38 "is_known" .leaf) 39 "own_rows" .leaf))) 40 "of" (.node (.node (.node (.node .leaf 41 "buffers" .leaf) 42 "meetings" (.node .leaf 43 "text" .leaf)) 44 "buffer" (.node (.node .leaf 45 "lifetime" .leaf) 46 "meets" .leaf)) 47 "who_meets" (.node (.node (.node .leaf 48 "alive_at" .leaf) 49 "crowds" .leaf) 50 "with_buffer" (.node (.node .leaf 51 "without_buffer" .leaf) 52 "with_lifetime" .leaf)))))
def gT : GT := [(("_wall" : PySem.Str), (.fn 1 : Gk)), (("is_number" : PySem.Str), (.fn 342 : Gk)), (("is_count" : PySem.Str), (.fn 343 : Gk)), (("is_name" : PySem.Str), (.fn 344 : Gk)), (("tupled" : PySem.Str), (.fn 347 : Gk)), (("number_in" : PySem.Str), (.fn 349 : Gk)), (("is_sizes" : PySem.Str), (.fn 292 : Gk)), (("size_table" : PySem.Str), (.fn 293 : Gk)), (("ends_below" : PySem.Str), (.fn 297 : Gk)), (("places" : PySem.Str), (.fn 298 : Gk)), (("height" : PySem.Str), (.fn 299 : Gk)), (("need" : PySem.Str), (.fn 300 : Gk)), (("is_placing" : PySem.Str), (.fn 302 : Gk)), (("follows" : PySem.Str), (.fn 303 : Gk)), (("is_buffer" : PySem.Str), (.fn 350 : Gk)), (("do_meet" : PySem.Str), (.fn 351 : Gk)), (("_law_box" : PySem.Str), (.fn 10 : Gk)), (("_law_take" : PySem.Str), (.fn 11 : Gk)), (("_law_cells" : PySem.Str), (.fn 12 : Gk)), (("_law_of" : PySem.Str), (.fn 13 : Gk)), (("_law_pick" : PySem.Str), (.fn 14 : Gk)), (("_law_same" : PySem.Str), (.fn 15 : Gk)), (("_law_lists" : PySem.Str), (.fn 16 : Gk)), (("_law_meet" : PySem.Str), (.fn 1000 : Gk)), (("_law_host" : PySem.Str), (.fn 1001 : Gk)), (("_law_order" : PySem.Str), (.fn 1002 : Gk)), (("_law_tags" : PySem.Str), (.fn 1003 : Gk)), (("_law_sizes" : PySem.Str), (.fn 1004 : Gk)), (("_law_is" : PySem.Str), (.fn 1005 : Gk)), (("_law_case_right" : PySem.Str), (.fn 1006 : Gk)), (("_law_by_hand_right" : PySem.Str), (.fn 1007 : Gk)), (("_law_right" : PySem.Str), (.fn 1008 : Gk)), (("law" : PySem.Str), (.fn 9 : Gk)), (("Plan" : PySem.Str), (.fn 354 : Gk)), (("LETTERS" : PySem.Str), (.con 118 : Gk)), (("DIGITS" : PySem.Str), (.con 119 : Gk)), (("MOST_LETTERS" : PySem.Str), (.con 120 : Gk)), (("BLANK" : PySem.Str), (.con 121 : Gk)), (("BETWEEN" : PySem.Str), (.con 122 : Gk)), (("NOTHING" : PySem.Str), (.con 123 : Gk)), (("PARTS" : PySem.Str), (.con 124 : Gk)), (("abs" : PySem.Str), (.bu : Gk)), (("all" : PySem.Str), (.bu : Gk)), (("bool" : PySem.Str), (.bu : Gk)), (("dict" : PySem.Str), (.bu : Gk)), (("enumerate" : PySem.Str), (.bu : Gk)), (("int" : PySem.Str), (.bu : Gk)), (("isinstance" : PySem.Str), (.bu : Gk)), (("len" : PySem.Str), (.bu : Gk)), (("list" : PySem.Str), (.bu : Gk)), (("max" : PySem.Str), (.bu : Gk)), (("min" : PySem.Str), (.bu : Gk)), (("range" : PySem.Str), (.bu : Gk)), (("sorted" : PySem.Str), (.bu : Gk)), (("str" : PySem.Str), (.bu : Gk)), (("tuple" : PySem.Str), (.bu : Gk)), (("zip" : PySem.Str), (.bu : Gk))]
def cs : List Ctr := [⟨"Plan", 354, 354, 355, "self", [], []⟩, ⟨"Plan", 5354, 354, 355, "self", ["buffers"], [.tup []]⟩]
def ats : List (Nat × Nat × At) := [(354, 41, .prop 357), (354, 3, .prop 358), (354, 42, .prop 359), (354, 0, .meth 361), (354, 39, .fld 0)]
def al : List (Nat × Nat) := [(354, 5354)]
noncomputable def T : Tab := ⟨⟨tF.get, tC.get, 10000, atG ats, ctG cs⟩, gT, fun i => (tP.get i).getD [], fun i => (tA.get i).getD Str.empty, altG al, fun i => !(cs.any fun c => Nat.beq c.i i)⟩
def es : List Ent := [e1, e9, e10, e11, e12, e13, e14, e15, e16, e292, e293, e297, e298, e299, e300, e302, e303, e342, e343, e344, e347, e349, e350, e351, e1000, e1001, e1002, e1003, e1004, e1005, e1006, e1007, e1008]
def ms : List Met := [e355, e357, e358, e359, e361]
theorem hand (n : Nat) : T.p.run (n+12) 1007 [] = .ok (.bl true) [] := by kernel_rfl
end Lk55
end
section
namespace Lk55
open PySem L2 Mi
theorem take_pos (n : Nat) (a b c s : Int) (ha : 0 < a) (hs : 0 < s) (hs2 : s.natAbs.log2 < 9000) : T.p.run (n + 1) 11 [.ml [.int a, .int b, .int c], .val (.int s)] = .ok (.int (a % s)) [.ml [.int (a / s), .int b, .int c], .val (.int s)] := by
  rw [run_fn (fn := f11) rfl rfl rfl]
  generalize hc : T.p.cfg (T.p.run n) f11 [.ml [.int a, .int b, .int c], .val (.int s)] = cc
  have k1 : okS cc [.ml [.int a, .int b, .int c], .val (.int s), .un, .un, .un, .un] 5 = true := by subst hc; rfl
  have k2 : ∀ m d, keepP cc 5 m d = .val d := fun m d => by subst hc; rfl
  have k3 : cc.mine = false := by subst hc; rfl
  show endF f11 (evSs cc b11 [.ml [.int a, .int b, .int c], .val (.int s), .un, .un, .un, .un]) = _
  unfold b11
  simp only [s_nil, s_cons, s_e, s_asg, s_asgT, s_asgP, s_ret, s_ife, s_for, s_whl, s_doc, s_app, ev_k, ev_v, ev_g, ev_neg, ev_not, ev_bop, ev_bool, ev_cmp, ev_cmp2, ev_ite, ev_tup, ev_lst, ev_comp, ev_call, ev_callk, ev_bi, ev_mt, ev_sub, ev_sl, ev_isi, ev_blen, ev_bin, ev_bcmp, ev_pop, ev_px, ev_attr, ev_meth, ev_olen, ev_oin, ev_dcomp, ev_comp2, ev_bsub, evs_nil, evs_cons, es_nil, es_cons, ts_nil, ts_cons, xb_one, xb_two, ei_e, ei_rng, ei_enum, ei_zip, parts_nil, parts_one, ok_bind, no_bind, lift_some, ok_fl, gt_zero, gt_succ, st_zero, st_succ, xBsub, shown_ml, shown_val, shown_md, sub_lst, sub_tup, at_0, at_1, at_2, bop_add, bop_sub, bi_int, gt_ints, le_ints, lt_ints, ge_ints, tru_bl, Option.map_some, Option.bind_some, xV]
  simp only [ha, decide_true, bop_mod hs, lift_some, ok_fl, k1, if_true, k2, st_succ, st_zero]
  rw [setI_ml (d := .int (a / s)) (e1 := [.ml [.int a, .int b, .int c], .val (.int s), .un, .un, .un, .val (.int (a % s))]) (e2 := [.ml [.int a, .int b, .int c], .val (.int s), .un, .un, .un, .val (.int (a % s))]) (xs := [.int a, .int b, .int c]) (k := 0) (j := 0) ?_ rfl rfl rfl rfl]
  · simp only [s_nil, s_cons, s_e, s_asg, s_asgT, s_asgP, s_ret, s_ife, s_for, s_whl, s_doc, s_app, ev_k, ev_v, ev_g, ev_neg, ev_not, ev_bop, ev_bool, ev_cmp, ev_cmp2, ev_ite, ev_tup, ev_lst, ev_comp, ev_call, ev_callk, ev_bi, ev_mt, ev_sub, ev_sl, ev_isi, ev_blen, ev_bin, ev_bcmp, ev_pop, ev_px, ev_attr, ev_meth, ev_olen, ev_oin, ev_dcomp, ev_comp2, ev_bsub, evs_nil, evs_cons, es_nil, es_cons, ts_nil, ts_cons, xb_one, xb_two, ei_e, ei_rng, ei_enum, ei_zip, parts_nil, parts_one, ok_bind, no_bind, lift_some, ok_fl, gt_zero, gt_succ, st_zero, st_succ, xBsub, shown_ml, shown_val, shown_md, sub_lst, sub_tup, at_0, at_1, at_2, bop_add, bop_sub, bi_int, gt_ints, le_ints, lt_ints, ge_ints, tru_bl, Option.map_some, Option.bind_some, xV]
    simp only [k3]
    rfl
  · simp only [s_nil, s_cons, s_e, s_asg, s_asgT, s_asgP, s_ret, s_ife, s_for, s_whl, s_doc, s_app, ev_k, ev_v, ev_g, ev_neg, ev_not, ev_bop, ev_bool, ev_cmp, ev_cmp2, ev_ite, ev_tup, ev_lst, ev_comp, ev_call, ev_callk, ev_bi, ev_mt, ev_sub, ev_sl, ev_isi, ev_blen, ev_bin, ev_bcmp, ev_pop, ev_px, ev_attr, ev_meth, ev_olen, ev_oin, ev_dcomp, ev_comp2, ev_bsub, evs_nil, evs_cons, es_nil, es_cons, ts_nil, ts_cons, xb_one, xb_two, ei_e, ei_rng, ei_enum, ei_zip, parts_nil, parts_one, ok_bind, no_bind, lift_some, ok_fl, gt_zero, gt_succ, st_zero, st_succ, xBsub, shown_ml, shown_val, shown_md, sub_lst, sub_tup, at_0, at_1, at_2, bop_add, bop_sub, bi_int, gt_ints, le_ints, lt_ints, ge_ints, tru_bl, Option.map_some, Option.bind_some, xV]
    rw [bop_div ⟨hs, hs2⟩]
    rfl
theorem log_lt {x : Int} {k : Nat} (h : x.natAbs < 2 ^ k) (hk : 0 < k) : x.natAbs.log2 < k := by
  by_cases h0 : x.natAbs = 0
  · rw [h0]; simpa using hk
  · exact (Nat.log2_lt h0).mpr h
theorem take_zero (n : Nat) (b c s : Int) (hs : 0 < s) (hb : 0 ≤ b ∧ b < 2 ^ 62) (hc0 : 0 ≤ c ∧ c < 2 ^ 62) : ∃ v, 0 ≤ v ∧ v < s ∧
    T.p.run (n + 1) 11 [.ml [.int 0, .int b, .int c], .val (.int s)] = .ok (.int v) [.ml [.int 0, .int b, .int (c + 1)], .val (.int s)] := by
  rw [run_fn (fn := f11) rfl rfl rfl]
  generalize hc : T.p.cfg (T.p.run n) f11 [.ml [.int 0, .int b, .int c], .val (.int s)] = cc
  have k1 : ∀ e : En, e.length = 6 → ∀ i, 2 ≤ i → i < 6 → okS cc e i = true := fun e he i h1 h2 => by
    subst hc
    unfold okS
    rw [he, decide_eq_true h2]
    have : decide (i < f11.np) = false := decide_eq_false (by show ¬ i < 2; omega)
    show (!(_ && decide (i < f11.np)) && true) = true
    rw [this]; simp
  have k2 : ∀ i m d, 1 ≤ i → keepP cc i m d = .val d := fun i m d h => by
    subst hc
    have : ([0] : List Nat).contains i = false := by simp; omega
    show (if ([0] : List Nat).contains i && _ then _ else P.val d) = _
    rw [this]; rfl
  have k3 : cc.mine = false := by subst hc; rfl
  have e2 : ∀ x y, okS cc [x, y, .un, .un, .un, .un] 2 = true := fun x y => k1 _ rfl 2 (by decide) (by decide)
  have e3 : ∀ x y z, okS cc [x, y, z, .un, .un, .un] 3 = true := fun x y z => k1 _ rfl 3 (by decide) (by decide)
  have e4 : ∀ x y z w, okS cc [x, y, z, w, .un, .un] 4 = true := fun x y z w => k1 _ rfl 4 (by decide) (by decide)
  have m1 : (48271 : Int).natAbs.log2 + (c + 1).natAbs.log2 < 100000000 := by
    have := log_lt (x := (c + 1)) (k := 64) (by omega) (by decide)
    have : (48271 : Int).natAbs.log2 < 20 := by decide
    omega
  have m2 : (b + 48271 * (c + 1)).natAbs.log2 + (39373 + (c + 1)).natAbs.log2 < 100000000 := by
    have := log_lt (x := b + 48271 * (c + 1)) (k := 90) (by omega) (by decide)
    have := log_lt (x := 39373 + (c + 1)) (k := 90) (by omega) (by decide)
    omega
  generalize hw : (b + 48271 * (c + 1)) * (39373 + (c + 1)) % 2147483647 = w
  have w1 : 0 ≤ w ∧ w < 2147483647 := by subst hw; exact ⟨Int.emod_nonneg _ (by decide), Int.emod_lt_of_pos _ (by decide)⟩
  generalize hf : w % 40009 + 7 = far
  have f1 : 0 ≤ far ∧ far < 50000 := by
    have := Int.emod_nonneg w (b := 40009) (by decide)
    have := Int.emod_lt_of_pos w (b := 40009) (by decide)
    omega
  have d1 : 0 ≤ b / 1000003 ∧ b / 1000003 < 2 ^ 62 := ⟨Int.ediv_nonneg hb.1 (by decide), by omega⟩
  have m3 : (w + (c + 1) + b / 1000003).natAbs.log2 + far.natAbs.log2 < 100000000 := by
    have := log_lt (x := w + (c + 1) + b / 1000003) (k := 90) (by omega) (by decide)
    have := log_lt (x := far) (k := 90) (by omega) (by decide)
    omega
  generalize ha : (w + (c + 1) + b / 1000003) * far % 2147483629 = ag
  have a1 : 0 ≤ ag ∧ ag < 2147483629 := by subst ha; exact ⟨Int.emod_nonneg _ (by decide), Int.emod_lt_of_pos _ (by decide)⟩
  have m4 : ag.natAbs.log2 + (48271 : Int).natAbs.log2 < 100000000 := by
    have := log_lt (x := ag) (k := 90) (by omega) (by decide)
    have : (48271 : Int).natAbs.log2 < 20 := by decide
    omega
  refine ⟨(ag * 48271 + w) % 2147483587 / 64 % s, Int.emod_nonneg _ (by omega), Int.emod_lt_of_pos _ hs, ?_⟩
  show endF f11 (evSs cc b11 [.ml [.int 0, .int b, .int c], .val (.int s), .un, .un, .un, .un]) = _
  unfold b11
  rw [s_cons, s_ife]
  have t0 : evE cc (.cmp (.bsub 0 (.k (.int 0))) .Gt (.k (.int 0))) [.ml [.int 0, .int b, .int c], .val (.int s), .un, .un, .un, .un] = .ok (.bl false) [.ml [.int 0, .int b, .int c], .val (.int s), .un, .un, .un, .un] := by
    simp only [s_nil, s_cons, s_e, s_asg, s_asgT, s_asgP, s_ret, s_ife, s_for, s_whl, s_doc, s_app, ev_k, ev_v, ev_g, ev_neg, ev_not, ev_bop, ev_bool, ev_cmp, ev_cmp2, ev_ite, ev_tup, ev_lst, ev_comp, ev_call, ev_callk, ev_bi, ev_mt, ev_sub, ev_sl, ev_isi, ev_blen, ev_bin, ev_bcmp, ev_pop, ev_px, ev_attr, ev_meth, ev_olen, ev_oin, ev_dcomp, ev_comp2, ev_bsub, evs_nil, evs_cons, es_nil, es_cons, ts_nil, ts_cons, xb_one, xb_two, ei_e, ei_rng, ei_enum, ei_zip, parts_nil, parts_one, ok_bind, no_bind, lift_some, ok_fl, gt_zero, gt_succ, st_zero, st_succ, xBsub, shown_ml, shown_val, shown_md, sub_lst, sub_tup, at_0, at_1, at_2, bop_add, bop_sub, bi_int, gt_ints, le_ints, lt_ints, ge_ints, tru_bl, Option.map_some, Option.bind_some, xV]
    rfl
  rw [t0, ok_fl]
  show endF f11 (evSs cc (.cons _ _) [.ml [.int 0, .int b, .int c], .val (.int s), .un, .un, .un, .un]) = _
  rw [s_cons, setI_ml (d := .int (c + 1)) (e1 := [.ml [.int 0, .int b, .int c], .val (.int s), .un, .un, .un, .un]) (e2 := [.ml [.int 0, .int b, .int c], .val (.int s), .un, .un, .un, .un]) (xs := [.int 0, .int b, .int c]) (k := 2) (j := 2) (by simp only [s_nil, s_cons, s_e, s_asg, s_asgT, s_asgP, s_ret, s_ife, s_for, s_whl, s_doc, s_app, ev_k, ev_v, ev_g, ev_neg, ev_not, ev_bop, ev_bool, ev_cmp, ev_cmp2, ev_ite, ev_tup, ev_lst, ev_comp, ev_call, ev_callk, ev_bi, ev_mt, ev_sub, ev_sl, ev_isi, ev_blen, ev_bin, ev_bcmp, ev_pop, ev_px, ev_attr, ev_meth, ev_olen, ev_oin, ev_dcomp, ev_comp2, ev_bsub, evs_nil, evs_cons, es_nil, es_cons, ts_nil, ts_cons, xb_one, xb_two, ei_e, ei_rng, ei_enum, ei_zip, parts_nil, parts_one, ok_bind, no_bind, lift_some, ok_fl, gt_zero, gt_succ, st_zero, st_succ, xBsub, shown_ml, shown_val, shown_md, sub_lst, sub_tup, at_0, at_1, at_2, bop_add, bop_sub, bi_int, gt_ints, le_ints, lt_ints, ge_ints, tru_bl, Option.map_some, Option.bind_some, xV]) rfl rfl rfl rfl]
  show endF f11 (evSs cc (.cons _ _) [.ml [.int 0, .int b, .int (c + 1)], .val (.int s), .un, .un, .un, .un]) = _
  simp only [s_nil, s_cons, s_e, s_asg, s_asgT, s_asgP, s_ret, s_ife, s_for, s_whl, s_doc, s_app, ev_k, ev_v, ev_g, ev_neg, ev_not, ev_bop, ev_bool, ev_cmp, ev_cmp2, ev_ite, ev_tup, ev_lst, ev_comp, ev_call, ev_callk, ev_bi, ev_mt, ev_sub, ev_sl, ev_isi, ev_blen, ev_bin, ev_bcmp, ev_pop, ev_px, ev_attr, ev_meth, ev_olen, ev_oin, ev_dcomp, ev_comp2, ev_bsub, evs_nil, evs_cons, es_nil, es_cons, ts_nil, ts_cons, xb_one, xb_two, ei_e, ei_rng, ei_enum, ei_zip, parts_nil, parts_one, ok_bind, no_bind, lift_some, ok_fl, gt_zero, gt_succ, st_zero, st_succ, xBsub, shown_ml, shown_val, shown_md, sub_lst, sub_tup, at_0, at_1, at_2, bop_add, bop_sub, bi_int, gt_ints, le_ints, lt_ints, ge_ints, tru_bl, Option.map_some, Option.bind_some, xV]
  rw [bop_mul m1]
  simp only [s_nil, s_cons, s_e, s_asg, s_asgT, s_asgP, s_ret, s_ife, s_for, s_whl, s_doc, s_app, ev_k, ev_v, ev_g, ev_neg, ev_not, ev_bop, ev_bool, ev_cmp, ev_cmp2, ev_ite, ev_tup, ev_lst, ev_comp, ev_call, ev_callk, ev_bi, ev_mt, ev_sub, ev_sl, ev_isi, ev_blen, ev_bin, ev_bcmp, ev_pop, ev_px, ev_attr, ev_meth, ev_olen, ev_oin, ev_dcomp, ev_comp2, ev_bsub, evs_nil, evs_cons, es_nil, es_cons, ts_nil, ts_cons, xb_one, xb_two, ei_e, ei_rng, ei_enum, ei_zip, parts_nil, parts_one, ok_bind, no_bind, lift_some, ok_fl, gt_zero, gt_succ, st_zero, st_succ, xBsub, shown_ml, shown_val, shown_md, sub_lst, sub_tup, at_0, at_1, at_2, bop_add, bop_sub, bi_int, gt_ints, le_ints, lt_ints, ge_ints, tru_bl, Option.map_some, Option.bind_some, xV]
  rw [bop_mul m2]
  simp only [s_nil, s_cons, s_e, s_asg, s_asgT, s_asgP, s_ret, s_ife, s_for, s_whl, s_doc, s_app, ev_k, ev_v, ev_g, ev_neg, ev_not, ev_bop, ev_bool, ev_cmp, ev_cmp2, ev_ite, ev_tup, ev_lst, ev_comp, ev_call, ev_callk, ev_bi, ev_mt, ev_sub, ev_sl, ev_isi, ev_blen, ev_bin, ev_bcmp, ev_pop, ev_px, ev_attr, ev_meth, ev_olen, ev_oin, ev_dcomp, ev_comp2, ev_bsub, evs_nil, evs_cons, es_nil, es_cons, ts_nil, ts_cons, xb_one, xb_two, ei_e, ei_rng, ei_enum, ei_zip, parts_nil, parts_one, ok_bind, no_bind, lift_some, ok_fl, gt_zero, gt_succ, st_zero, st_succ, xBsub, shown_ml, shown_val, shown_md, sub_lst, sub_tup, at_0, at_1, at_2, bop_add, bop_sub, bi_int, gt_ints, le_ints, lt_ints, ge_ints, tru_bl, Option.map_some, Option.bind_some, xV]
  rw [bop_mod (show (0 : Int) < 2147483647 by decide), hw]
  simp only [s_nil, s_cons, s_e, s_asg, s_asgT, s_asgP, s_ret, s_ife, s_for, s_whl, s_doc, s_app, ev_k, ev_v, ev_g, ev_neg, ev_not, ev_bop, ev_bool, ev_cmp, ev_cmp2, ev_ite, ev_tup, ev_lst, ev_comp, ev_call, ev_callk, ev_bi, ev_mt, ev_sub, ev_sl, ev_isi, ev_blen, ev_bin, ev_bcmp, ev_pop, ev_px, ev_attr, ev_meth, ev_olen, ev_oin, ev_dcomp, ev_comp2, ev_bsub, evs_nil, evs_cons, es_nil, es_cons, ts_nil, ts_cons, xb_one, xb_two, ei_e, ei_rng, ei_enum, ei_zip, parts_nil, parts_one, ok_bind, no_bind, lift_some, ok_fl, gt_zero, gt_succ, st_zero, st_succ, xBsub, shown_ml, shown_val, shown_md, sub_lst, sub_tup, at_0, at_1, at_2, bop_add, bop_sub, bi_int, gt_ints, le_ints, lt_ints, ge_ints, tru_bl, Option.map_some, Option.bind_some, xV]
  rw [if_pos (e2 _ _), k2 2 _ _ (by decide)]
  simp only [s_nil, s_cons, s_e, s_asg, s_asgT, s_asgP, s_ret, s_ife, s_for, s_whl, s_doc, s_app, ev_k, ev_v, ev_g, ev_neg, ev_not, ev_bop, ev_bool, ev_cmp, ev_cmp2, ev_ite, ev_tup, ev_lst, ev_comp, ev_call, ev_callk, ev_bi, ev_mt, ev_sub, ev_sl, ev_isi, ev_blen, ev_bin, ev_bcmp, ev_pop, ev_px, ev_attr, ev_meth, ev_olen, ev_oin, ev_dcomp, ev_comp2, ev_bsub, evs_nil, evs_cons, es_nil, es_cons, ts_nil, ts_cons, xb_one, xb_two, ei_e, ei_rng, ei_enum, ei_zip, parts_nil, parts_one, ok_bind, no_bind, lift_some, ok_fl, gt_zero, gt_succ, st_zero, st_succ, xBsub, shown_ml, shown_val, shown_md, sub_lst, sub_tup, at_0, at_1, at_2, bop_add, bop_sub, bi_int, gt_ints, le_ints, lt_ints, ge_ints, tru_bl, Option.map_some, Option.bind_some, xV]
  rw [bop_mod (show (0 : Int) < 40009 by decide)]
  simp only [s_nil, s_cons, s_e, s_asg, s_asgT, s_asgP, s_ret, s_ife, s_for, s_whl, s_doc, s_app, ev_k, ev_v, ev_g, ev_neg, ev_not, ev_bop, ev_bool, ev_cmp, ev_cmp2, ev_ite, ev_tup, ev_lst, ev_comp, ev_call, ev_callk, ev_bi, ev_mt, ev_sub, ev_sl, ev_isi, ev_blen, ev_bin, ev_bcmp, ev_pop, ev_px, ev_attr, ev_meth, ev_olen, ev_oin, ev_dcomp, ev_comp2, ev_bsub, evs_nil, evs_cons, es_nil, es_cons, ts_nil, ts_cons, xb_one, xb_two, ei_e, ei_rng, ei_enum, ei_zip, parts_nil, parts_one, ok_bind, no_bind, lift_some, ok_fl, gt_zero, gt_succ, st_zero, st_succ, xBsub, shown_ml, shown_val, shown_md, sub_lst, sub_tup, at_0, at_1, at_2, bop_add, bop_sub, bi_int, gt_ints, le_ints, lt_ints, ge_ints, tru_bl, Option.map_some, Option.bind_some, xV]
  rw [hf, if_pos (e3 _ _ _), k2 3 _ _ (by decide)]
  simp only [s_nil, s_cons, s_e, s_asg, s_asgT, s_asgP, s_ret, s_ife, s_for, s_whl, s_doc, s_app, ev_k, ev_v, ev_g, ev_neg, ev_not, ev_bop, ev_bool, ev_cmp, ev_cmp2, ev_ite, ev_tup, ev_lst, ev_comp, ev_call, ev_callk, ev_bi, ev_mt, ev_sub, ev_sl, ev_isi, ev_blen, ev_bin, ev_bcmp, ev_pop, ev_px, ev_attr, ev_meth, ev_olen, ev_oin, ev_dcomp, ev_comp2, ev_bsub, evs_nil, evs_cons, es_nil, es_cons, ts_nil, ts_cons, xb_one, xb_two, ei_e, ei_rng, ei_enum, ei_zip, parts_nil, parts_one, ok_bind, no_bind, lift_some, ok_fl, gt_zero, gt_succ, st_zero, st_succ, xBsub, shown_ml, shown_val, shown_md, sub_lst, sub_tup, at_0, at_1, at_2, bop_add, bop_sub, bi_int, gt_ints, le_ints, lt_ints, ge_ints, tru_bl, Option.map_some, Option.bind_some, xV]
  rw [bop_div (show (0 : Int) < 1000003 ∧ (1000003 : Int).natAbs.log2 < 9000 by decide)]
  simp only [s_nil, s_cons, s_e, s_asg, s_asgT, s_asgP, s_ret, s_ife, s_for, s_whl, s_doc, s_app, ev_k, ev_v, ev_g, ev_neg, ev_not, ev_bop, ev_bool, ev_cmp, ev_cmp2, ev_ite, ev_tup, ev_lst, ev_comp, ev_call, ev_callk, ev_bi, ev_mt, ev_sub, ev_sl, ev_isi, ev_blen, ev_bin, ev_bcmp, ev_pop, ev_px, ev_attr, ev_meth, ev_olen, ev_oin, ev_dcomp, ev_comp2, ev_bsub, evs_nil, evs_cons, es_nil, es_cons, ts_nil, ts_cons, xb_one, xb_two, ei_e, ei_rng, ei_enum, ei_zip, parts_nil, parts_one, ok_bind, no_bind, lift_some, ok_fl, gt_zero, gt_succ, st_zero, st_succ, xBsub, shown_ml, shown_val, shown_md, sub_lst, sub_tup, at_0, at_1, at_2, bop_add, bop_sub, bi_int, gt_ints, le_ints, lt_ints, ge_ints, tru_bl, Option.map_some, Option.bind_some, xV]
  rw [bop_mul m3]
  simp only [s_nil, s_cons, s_e, s_asg, s_asgT, s_asgP, s_ret, s_ife, s_for, s_whl, s_doc, s_app, ev_k, ev_v, ev_g, ev_neg, ev_not, ev_bop, ev_bool, ev_cmp, ev_cmp2, ev_ite, ev_tup, ev_lst, ev_comp, ev_call, ev_callk, ev_bi, ev_mt, ev_sub, ev_sl, ev_isi, ev_blen, ev_bin, ev_bcmp, ev_pop, ev_px, ev_attr, ev_meth, ev_olen, ev_oin, ev_dcomp, ev_comp2, ev_bsub, evs_nil, evs_cons, es_nil, es_cons, ts_nil, ts_cons, xb_one, xb_two, ei_e, ei_rng, ei_enum, ei_zip, parts_nil, parts_one, ok_bind, no_bind, lift_some, ok_fl, gt_zero, gt_succ, st_zero, st_succ, xBsub, shown_ml, shown_val, shown_md, sub_lst, sub_tup, at_0, at_1, at_2, bop_add, bop_sub, bi_int, gt_ints, le_ints, lt_ints, ge_ints, tru_bl, Option.map_some, Option.bind_some, xV]
  rw [bop_mod (show (0 : Int) < 2147483629 by decide), ha]
  simp only [s_nil, s_cons, s_e, s_asg, s_asgT, s_asgP, s_ret, s_ife, s_for, s_whl, s_doc, s_app, ev_k, ev_v, ev_g, ev_neg, ev_not, ev_bop, ev_bool, ev_cmp, ev_cmp2, ev_ite, ev_tup, ev_lst, ev_comp, ev_call, ev_callk, ev_bi, ev_mt, ev_sub, ev_sl, ev_isi, ev_blen, ev_bin, ev_bcmp, ev_pop, ev_px, ev_attr, ev_meth, ev_olen, ev_oin, ev_dcomp, ev_comp2, ev_bsub, evs_nil, evs_cons, es_nil, es_cons, ts_nil, ts_cons, xb_one, xb_two, ei_e, ei_rng, ei_enum, ei_zip, parts_nil, parts_one, ok_bind, no_bind, lift_some, ok_fl, gt_zero, gt_succ, st_zero, st_succ, xBsub, shown_ml, shown_val, shown_md, sub_lst, sub_tup, at_0, at_1, at_2, bop_add, bop_sub, bi_int, gt_ints, le_ints, lt_ints, ge_ints, tru_bl, Option.map_some, Option.bind_some, xV]
  rw [if_pos (e4 _ _ _ _), k2 4 _ _ (by decide)]
  simp only [s_nil, s_cons, s_e, s_asg, s_asgT, s_asgP, s_ret, s_ife, s_for, s_whl, s_doc, s_app, ev_k, ev_v, ev_g, ev_neg, ev_not, ev_bop, ev_bool, ev_cmp, ev_cmp2, ev_ite, ev_tup, ev_lst, ev_comp, ev_call, ev_callk, ev_bi, ev_mt, ev_sub, ev_sl, ev_isi, ev_blen, ev_bin, ev_bcmp, ev_pop, ev_px, ev_attr, ev_meth, ev_olen, ev_oin, ev_dcomp, ev_comp2, ev_bsub, evs_nil, evs_cons, es_nil, es_cons, ts_nil, ts_cons, xb_one, xb_two, ei_e, ei_rng, ei_enum, ei_zip, parts_nil, parts_one, ok_bind, no_bind, lift_some, ok_fl, gt_zero, gt_succ, st_zero, st_succ, xBsub, shown_ml, shown_val, shown_md, sub_lst, sub_tup, at_0, at_1, at_2, bop_add, bop_sub, bi_int, gt_ints, le_ints, lt_ints, ge_ints, tru_bl, Option.map_some, Option.bind_some, xV]
  rw [bop_mul m4]
  simp only [s_nil, s_cons, s_e, s_asg, s_asgT, s_asgP, s_ret, s_ife, s_for, s_whl, s_doc, s_app, ev_k, ev_v, ev_g, ev_neg, ev_not, ev_bop, ev_bool, ev_cmp, ev_cmp2, ev_ite, ev_tup, ev_lst, ev_comp, ev_call, ev_callk, ev_bi, ev_mt, ev_sub, ev_sl, ev_isi, ev_blen, ev_bin, ev_bcmp, ev_pop, ev_px, ev_attr, ev_meth, ev_olen, ev_oin, ev_dcomp, ev_comp2, ev_bsub, evs_nil, evs_cons, es_nil, es_cons, ts_nil, ts_cons, xb_one, xb_two, ei_e, ei_rng, ei_enum, ei_zip, parts_nil, parts_one, ok_bind, no_bind, lift_some, ok_fl, gt_zero, gt_succ, st_zero, st_succ, xBsub, shown_ml, shown_val, shown_md, sub_lst, sub_tup, at_0, at_1, at_2, bop_add, bop_sub, bi_int, gt_ints, le_ints, lt_ints, ge_ints, tru_bl, Option.map_some, Option.bind_some, xV]
  rw [bop_mod (show (0 : Int) < 2147483587 by decide)]
  simp only [s_nil, s_cons, s_e, s_asg, s_asgT, s_asgP, s_ret, s_ife, s_for, s_whl, s_doc, s_app, ev_k, ev_v, ev_g, ev_neg, ev_not, ev_bop, ev_bool, ev_cmp, ev_cmp2, ev_ite, ev_tup, ev_lst, ev_comp, ev_call, ev_callk, ev_bi, ev_mt, ev_sub, ev_sl, ev_isi, ev_blen, ev_bin, ev_bcmp, ev_pop, ev_px, ev_attr, ev_meth, ev_olen, ev_oin, ev_dcomp, ev_comp2, ev_bsub, evs_nil, evs_cons, es_nil, es_cons, ts_nil, ts_cons, xb_one, xb_two, ei_e, ei_rng, ei_enum, ei_zip, parts_nil, parts_one, ok_bind, no_bind, lift_some, ok_fl, gt_zero, gt_succ, st_zero, st_succ, xBsub, shown_ml, shown_val, shown_md, sub_lst, sub_tup, at_0, at_1, at_2, bop_add, bop_sub, bi_int, gt_ints, le_ints, lt_ints, ge_ints, tru_bl, Option.map_some, Option.bind_some, xV]
  rw [bop_div (show (0 : Int) < 64 ∧ (64 : Int).natAbs.log2 < 9000 by decide)]
  simp only [s_nil, s_cons, s_e, s_asg, s_asgT, s_asgP, s_ret, s_ife, s_for, s_whl, s_doc, s_app, ev_k, ev_v, ev_g, ev_neg, ev_not, ev_bop, ev_bool, ev_cmp, ev_cmp2, ev_ite, ev_tup, ev_lst, ev_comp, ev_call, ev_callk, ev_bi, ev_mt, ev_sub, ev_sl, ev_isi, ev_blen, ev_bin, ev_bcmp, ev_pop, ev_px, ev_attr, ev_meth, ev_olen, ev_oin, ev_dcomp, ev_comp2, ev_bsub, evs_nil, evs_cons, es_nil, es_cons, ts_nil, ts_cons, xb_one, xb_two, ei_e, ei_rng, ei_enum, ei_zip, parts_nil, parts_one, ok_bind, no_bind, lift_some, ok_fl, gt_zero, gt_succ, st_zero, st_succ, xBsub, shown_ml, shown_val, shown_md, sub_lst, sub_tup, at_0, at_1, at_2, bop_add, bop_sub, bi_int, gt_ints, le_ints, lt_ints, ge_ints, tru_bl, Option.map_some, Option.bind_some, xV]
  rw [bop_mod hs]
  simp only [s_nil, s_cons, s_e, s_asg, s_asgT, s_asgP, s_ret, s_ife, s_for, s_whl, s_doc, s_app, ev_k, ev_v, ev_g, ev_neg, ev_not, ev_bop, ev_bool, ev_cmp, ev_cmp2, ev_ite, ev_tup, ev_lst, ev_comp, ev_call, ev_callk, ev_bi, ev_mt, ev_sub, ev_sl, ev_isi, ev_blen, ev_bin, ev_bcmp, ev_pop, ev_px, ev_attr, ev_meth, ev_olen, ev_oin, ev_dcomp, ev_comp2, ev_bsub, evs_nil, evs_cons, es_nil, es_cons, ts_nil, ts_cons, xb_one, xb_two, ei_e, ei_rng, ei_enum, ei_zip, parts_nil, parts_one, ok_bind, no_bind, lift_some, ok_fl, gt_zero, gt_succ, st_zero, st_succ, xBsub, shown_ml, shown_val, shown_md, sub_lst, sub_tup, at_0, at_1, at_2, bop_add, bop_sub, bi_int, gt_ints, le_ints, lt_ints, ge_ints, tru_bl, Option.map_some, Option.bind_some, xV]
  rw [k3]
  rfl
end Lk55
end
section
namespace Mi
open PySem L2
section
variable {c : Cfg} {e e1 : En}
theorem asgP2 {i j : Nat} {a b : M} {d1 d2 : D} (h : esC (evEs c (.cons false a (.cons false b .nil))) e = .ok [d1, d2] e1) (h1 : okS c e1 i = true) (h2 : okS c (e1.set i (keepP c i a d1)) j = true) :
    evS c (.asgP [i, j] (.cons false a (.cons false b .nil))) e = .nx ((e1.set i (keepP c i a d1)).set j (keepP c j b d2)) := by
  rw [s_asgP, h, ok_fl]
  show (if okS c e1 i then st e1 i (keepP c i a d1) (fun e => if okS c e j then st e j (keepP c j b d2) Fl.nx else Fl.no) else Fl.no) = _
  rw [if_pos h1, st_eq, if_pos h2, st_eq]
theorem asgP3 {i j k : Nat} {a b z : M} {d1 d2 d3 : D} (h : esC (evEs c (.cons false a (.cons false b (.cons false z .nil)))) e = .ok [d1, d2, d3] e1) (h1 : okS c e1 i = true) (h2 : okS c (e1.set i (keepP c i a d1)) j = true) (h3 : okS c ((e1.set i (keepP c i a d1)).set j (keepP c j b d2)) k = true) :
    evS c (.asgP [i, j, k] (.cons false a (.cons false b (.cons false z .nil)))) e = .nx (((e1.set i (keepP c i a d1)).set j (keepP c j b d2)).set k (keepP c k z d3)) := by
  rw [s_asgP, h, ok_fl]
  show (if okS c e1 i then st e1 i (keepP c i a d1) (fun e => if okS c e j then st e j (keepP c j b d2) (fun e => if okS c e k then st e k (keepP c k z d3) Fl.nx else Fl.no) else Fl.no) else Fl.no) = _
  rw [if_pos h1, st_eq, if_pos h2, st_eq, if_pos h3, st_eq]
theorem at_in {xs : List D} {v : Int} (h0 : 0 ≤ v) (h1 : v < xs.length) : ∃ d, atI xs v = some d ∧ d ∈ xs := by
  have hv : v = ((v.toNat : Nat) : Int) := by omega
  have hlt : v.toNat < xs.length := by omega
  refine ⟨xs[v.toNat], ?_, List.getElem_mem _⟩
  have hx := ix_nat hlt
  rw [← hv] at hx
  unfold atI
  rw [hx]
  exact List.getElem?_eq_getElem hlt
theorem erase_perm {α : Type} : ∀ {l : List α} {i : Nat} (h : i < l.length), (l[i] :: l.eraseIdx i).Perm l
  | [], i, h => by simp at h
  | x :: l, 0, h => List.Perm.refl _
  | x :: l, i + 1, h => by
    have hi : i < l.length := by simpa using h
    have := erase_perm hi
    simp only [List.getElem_cons_succ, List.eraseIdx_cons_succ]
    exact (List.Perm.swap x (l[i]'hi) _).trans (this.cons x)
/-- the box of draws -/
def Bx (N : Int) (p : List D) : Prop := ∃ a b c, p = [.int a, .int b, .int c] ∧ 0 ≤ a ∧ (0 ≤ b ∧ b < 2 ^ 62) ∧ 0 ≤ c ∧ c ≤ N
theorem Bx.mono {N M : Int} {p : List D} (h : Bx N p) (hm : N ≤ M) : Bx M p := by
  obtain ⟨a, b, c, h1, h2, h3, h4, h5⟩ := h
  exact ⟨a, b, c, h1, h2, h3, h4, by omega⟩
end
end Mi
namespace Lk55
open PySem L2 Mi
noncomputable abbrev CC (n : Nat) (fn : Fn) (ps : List P) : Cfg := T.p.cfg (T.p.run n) fn ps
theorem take {N s : Int} {p : List D} (h : Bx N p) (hN : N < 2 ^ 60) (hs : 0 < s) (hs2 : s ≤ 1000) (n : Nat) : ∃ v p', 0 ≤ v ∧ v < s ∧ Bx (N + 1) p' ∧ T.p.run (n + 1) 11 [.ml p, .val (.int s)] = .ok (.int v) [.ml p', .val (.int s)] := by
  obtain ⟨a, b, c, rfl, h1, h2, h3, h4⟩ := h
  rcases Int.lt_or_eq_of_le h1 with ha | ha
  · refine ⟨a % s, _, Int.emod_nonneg _ (by omega), Int.emod_lt_of_pos _ hs, ⟨a / s, b, c, rfl, Int.ediv_nonneg h1 (by omega), h2, h3, by omega⟩, take_pos n a b c s ha hs ?_⟩
    have := log_lt (x := s) (k := 20) (by omega) (by decide)
    omega
  · subst ha
    obtain ⟨v, v1, v2, h5⟩ := take_zero n b c s hs h2 ⟨h3, by omega⟩
    exact ⟨v, _, v1, v2, ⟨0, b, c + 1, rfl, by omega, h2, by omega, by omega⟩, h5⟩
/-- one of some goods -/
theorem law_of {N : Int} {p xs : List D} {goods : D} (h : Bx N p) (hN : N < 2 ^ 60) (hg : goods = .lst xs ∨ goods = .tup xs) (h0 : xs ≠ []) (hl : xs.length ≤ 1000) (n : Nat) : ∃ d p', d ∈ xs ∧ Bx (N + 1) p' ∧ T.p.run (n + 2) 13 [.ml p, .val goods] = .ok d [.ml p', .val goods] := by
  have hp : 0 < xs.length := List.length_pos_iff.mpr h0
  obtain ⟨v, p', v1, v2, hb, hr⟩ := take h hN (s := xs.length) (by omega) (by omega) n
  obtain ⟨d, d1, d2⟩ := at_in v1 v2
  refine ⟨d, p', d2, hb, ?_⟩
  rw [run_fn (fn := f13) rfl rfl rfl]
  show endF f13 (evSs (CC (n + 1) f13 [.ml p, .val goods]) b13 [.ml p, .val goods]) = _
  have hlen : biD .len [goods] = some (.int xs.length) := by rcases hg with e | e <;> rw [e] <;> rfl
  have hsub : subD goods (.int v) = some d := by rcases hg with e | e <;> rw [e] <;> exact d1
  have hc : evE (CC (n + 1) f13 [.ml p, .val goods]) (.call 11 (.cons false (.v 0) (.cons false (.bi .len (.cons false (.v 1) .nil)) .nil))) [.ml p, .val goods] = .ok (.int v) [.ml p', .val goods] :=
    call_lend (ds := [.int xs.length]) (e1 := [.ml p, .val goods]) rfl rfl (es_of (by rw [ev_bi, es_of (v_val rfl) es_end, ok_bind, hlen]; rfl) es_end) rfl hr rfl
  have hb : evSs (CC (n + 1) f13 [.ml p, .val goods]) b13 [.ml p, .val goods] = .rt d [.ml p', .val goods] :=
    s_rt (ret_of (by rw [ev_sub, v_val (d := goods) rfl, ok_bind, hc, ok_bind, hsub]; rfl) rfl)
  rw [hb]
  rfl
/-- some goods, drawn one behind another -/
theorem law_pick {N k : Int} {p goods : List D} (h : Bx N p) (hN : N + goods.length < 2 ^ 60) (hl : goods.length ≤ 1000) (hk : 0 ≤ k ∧ k ≤ 1000) (n : Nat) : ∃ found pool p', (found ++ pool).Perm goods ∧ (found.length : Int) = min k goods.length ∧ Bx (N + goods.length) p' ∧
    T.p.run (n + 2) 14 [.ml p, .val (.lst goods), .val (.int k)] = .ok (.lst found) [.ml p', .val (.lst goods), .val (.int k)] := by
  rw [run_fn (fn := f14) rfl rfl rfl]
  generalize hcc : T.p.cfg (T.p.run (n + 1)) f14 [.ml p, .val (.lst goods), .val (.int k)] = cc
  show ∃ found pool p', _ ∧ _ ∧ _ ∧ endF f14 (evSs cc b14 [.ml p, .val (.lst goods), .val (.int k), .un, .un, .un]) = _
  have s1 : evS cc (.asgP [4, 5] (.cons false (.bi .list (.cons false (.v 1) .nil)) (.cons false (.lst .nil) .nil))) [.ml p, .val (.lst goods), .val (.int k), .un, .un, .un] = .nx [.ml p, .val (.lst goods), .val (.int k), .un, .ml goods, .ml []] := by
    subst hcc
    exact asgP2 (d1 := .lst goods) (d2 := .lst []) (e1 := [.ml p, .val (.lst goods), .val (.int k), .un, .un, .un]) (es_of (by rw [ev_bi, es_of (v_val rfl) es_end, ok_bind]; rfl) (es_of rfl es_end)) rfl rfl
  have s2 : evI cc (.rng (.cons false (.bi .min2 (.cons false (.bi .int (.cons false (.v 2) .nil)) (.cons false (.blen 4) .nil))) .nil)) [.ml p, .val (.lst goods), .val (.int k), .un, .ml goods, .ml []] = .ok ((List.range (if (goods.length : Int) < k then (goods.length : Int) else k).toNat).map fun i => .int (i : Nat)) [.ml p, .val (.lst goods), .val (.int k), .un, .ml goods, .ml []] := by
    rw [ei_rng, es_of (d := .int (if (goods.length : Int) < k then (goods.length : Int) else k)) (e1 := [.ml p, .val (.lst goods), .val (.int k), .un, .ml goods, .ml []]) ?_ es_end, ok_bind]
    · have hb : -big ≤ (if (goods.length : Int) < k then (goods.length : Int) else k) ∧ (if (goods.length : Int) < k then (goods.length : Int) else k) < big := by
        unfold big
        split <;> omega
      show lift (if -big ≤ _ ∧ _ < big then _ else none) _ = _
      rw [if_pos hb]
      rfl
    · rw [ev_bi, es_of (d := .int k) (e1 := [.ml p, .val (.lst goods), .val (.int k), .un, .ml goods, .ml []]) (by rw [ev_bi, es_of (v_val rfl) es_end, ok_bind]; rfl) (es_of (blen_of rfl) es_end), ok_bind]
      rfl
  generalize hm : (if (goods.length : Int) < k then (goods.length : Int) else k).toNat = m at s2
  have hmg : m ≤ goods.length ∧ (m : Int) = min k goods.length := by
    subst hm
    split <;> omega
  obtain ⟨e4, s3, x3, p', pool, found, rfl, i1, i2, i3, i4⟩ := for_inv (c := cc) (tg := .n 3) (b := .cons (.app 5 (.pop 4 (.cons false (.call 11 (.cons false (.v 0) (.cons false (.blen 4) .nil))) .nil))) .nil) (e := [.ml p, .val (.lst goods), .val (.int k), .un, .ml goods, .ml []])
    (I := fun r e => ∃ x3 p' pool found, e = [.ml p', .val (.lst goods), .val (.int k), x3, .ml pool, .ml found] ∧ (found ++ pool).Perm goods ∧ Bx (N + found.length) p' ∧ r.length + found.length = m ∧ True) s2
    ⟨.un, p, goods, [], rfl, List.Perm.refl _, h.mono (by simp), by simp, trivial⟩ (by
      rintro x r e ⟨x3, p', pool, found, rfl, i1, i2, i3, _⟩
      have hpl := i1.length_eq
      rw [List.length_append] at hpl
      rw [List.length_cons] at i3
      have hpos : 0 < pool.length := by omega
      refine ⟨[.ml p', .val (.lst goods), .val (.int k), .val x, .ml pool, .ml found], by subst hcc; rfl, rfl, ?_⟩
      obtain ⟨v, p2, v1, v2, hb, hr⟩ := take i2 (by omega) (s := pool.length) (by omega) (by omega) n
      obtain ⟨d, d1, d2⟩ := at_in v1 v2
      have hv : v = ((v.toNat : Nat) : Int) := by omega
      have hlt : v.toNat < pool.length := by omega
      have hc : evE cc (.call 11 (.cons false (.v 0) (.cons false (.blen 4) .nil))) [.ml p', .val (.lst goods), .val (.int k), .val x, .ml pool, .ml found] = .ok (.int v) [.ml p2, .val (.lst goods), .val (.int k), .val x, .ml pool, .ml found] := by
        subst hcc
        exact call_lend (ds := [.int pool.length]) (e1 := [.ml p', .val (.lst goods), .val (.int k), .val x, .ml pool, .ml found]) rfl rfl (es_of (blen_of rfl) es_end) rfl hr rfl
      have hp : evE cc (.pop 4 (.cons false (.call 11 (.cons false (.v 0) (.cons false (.blen 4) .nil))) .nil)) [.ml p', .val (.lst goods), .val (.int k), .val x, .ml pool, .ml found] = .ok pool[v.toNat] [.ml p2, .val (.lst goods), .val (.int k), .val x, .ml (pool.eraseIdx v.toNat), .ml found] :=
        pop_of (k := v) (j := v.toNat) rfl (es_of hc es_end) rfl (by unfold big; omega) (by rw [hv]; exact ix_nat hlt) (List.getElem?_eq_getElem hlt)
      refine ⟨[.ml p2, .val (.lst goods), .val (.int k), .val x, .ml (pool.eraseIdx v.toNat), .ml (found ++ [pool[v.toNat]])], ?_, .val x, p2, pool.eraseIdx v.toNat, found ++ [pool[v.toNat]], rfl, ?_, hb.mono (by rw [List.length_append]; simp; omega), by rw [List.length_append]; simp; omega, trivial⟩
      · rw [s_step (app_of rfl hp rfl (by have : sizeLine = 16777216 := by first | rfl | decide
                                          omega))]
        rfl
      · refine List.Perm.trans ?_ i1
        rw [List.append_assoc]
        refine List.Perm.append_left _ ?_
        exact erase_perm hlt)
  refine ⟨found, pool, p', i1, by simp at i3; omega, i2.mono (by have := i1.length_eq; rw [List.length_append] at this; omega), ?_⟩
  have s4 : evS cc (.ret (.v 5)) [.ml p', .val (.lst goods), .val (.int k), x3, .ml pool, .ml found] = .rt (.lst found) [.ml p', .val (.lst goods), .val (.int k), x3, .ml pool, .val (.lst found)] := by
    subst hcc
    exact ret_of (v_ml rfl rfl) rfl
  unfold b14
  rw [s_step s1, s_step s3, s_rt s4]
  rfl
end Lk55
end
section
namespace Lk55
open PySem L2 Mi
def isInt : Mi.D → Bool | .int _ => true | _ => false
def isCount : Mi.D → Bool | .int i => decide (0 ≤ i) | _ => false
theorem r342 (n : Nat) (v : Mi.D) (h : isDat v = true) : T.p.run (n + 1) 342 [.val v] = .ok (.bl (isInt v)) [.val v] := by
  cases v <;> first | (cases h; done) | rfl
theorem r343 (n : Nat) (v : Mi.D) (h : isDat v = true) : T.p.run (n + 2) 343 [.val v] = .ok (.bl (isCount v)) [.val v] := by
  cases v <;> first | (cases h; done) | rfl
/-- a buffer -/
structure Bf where
  nm : Str
  lo : Nat
  hi : Nat
def Bf.d (b : Bf) : Mi.D := .tup [.str b.nm, .int (Int.ofNat b.lo), .int (Int.ofNat b.hi)]
def Six : List Str := ["a", "b", "c", "dd", "e", "zoe"]
theorem r344 (n : Nat) (s : Str) (h : s ∈ Six) : T.p.run (n + 1) 344 [.val (.str s)] = .ok (.bl true) [.val (.str s)] := by
  simp only [Six, List.mem_cons, List.not_mem_nil, or_false] at h
  rcases h with h | h | h | h | h | h <;> subst h <;> kernel_rfl
theorem r350 (n : Nat) (b : Bf) (h : b.nm ∈ Six) (hl : b.lo ≤ b.hi) : T.p.run (n + 3) 350 [.val b.d] = .ok (.bl true) [.val b.d] := by
  have e : decide (Int.ofNat b.lo ≤ Int.ofNat b.hi) = true := decide_eq_true (Int.ofNat_le.mpr hl)
  have k : T.p.run (n + 3) 350 [.val b.d] = .ok (.bl (decide (Int.ofNat b.lo ≤ Int.ofNat b.hi))) [.val b.d] := by
    obtain ⟨s, lo, hi⟩ := b
    simp only [Six, List.mem_cons, List.not_mem_nil, or_false] at h
    rcases h with h | h | h | h | h | h <;> subst h <;> kernel_rfl
  rw [k, e]
theorem r347b (n : Nat) (b : Bf) : T.p.run (n + 2) 347 [.val b.d] = .ok b.d [.val b.d] := by kernel_rfl
theorem r347 (n : Nat) (bs : List Bf) (h : bs.length ≤ 1000) : T.p.run (n + 3) 347 [.val (.tup (bs.map Bf.d))] = .ok (.tup (bs.map Bf.d)) [.val (.tup (bs.map Bf.d))] := by
  rw [run_fn (fn := f347) rfl rfl rfl]
  generalize hcc : T.p.cfg (T.p.run (n + 2)) f347 [.val (.tup (bs.map Bf.d))] = cc
  show endF f347 (evSs cc b347 [.val (.tup (bs.map Bf.d)), .un]) = _
  have hc := comp_m (c := cc) (i := 1) (elt := .call 347 (.cons false (.v 1) .nil)) (it := .e (.v 0)) (xs := bs.map Bf.d) (g := id) (e := [.val (.tup (bs.map Bf.d)), .un]) (e1 := [.val (.tup (bs.map Bf.d)), .un]) (fun k => by simp) (by subst hcc; rfl) (by subst hcc; rfl) (line_of (by rw [List.length_map]; omega)) (by
    intro x hx
    obtain ⟨b, hb, rfl⟩ := List.mem_map.mp hx
    subst hcc
    exact call_val (d := b.d) (ds := []) (e1 := [.val (.tup (bs.map Bf.d)), .val b.d]) (e2 := [.val (.tup (bs.map Bf.d)), .val b.d]) rfl (v_val rfl) es_end (r347b n b))
  have hr : evS cc (.ret (.ite (.isi (.v 0) [.list, .tuple]) (.bi .tuple (.cons false (.comp [1] (.call 347 (.cons false (.v 1) .nil)) (.n 1) (.e (.v 0)) .nil) .nil)) (.v 0))) [.val (.tup (bs.map Bf.d)), .un] = .rt (.tup (bs.map Bf.d)) [.val (.tup (bs.map Bf.d)), .un] := by
    refine ret_of ?_ (by subst hcc; rfl)
    rw [ev_ite]
    show (R.bind _ _) = _
    rw [show evE cc (.isi (.v 0) [.list, .tuple]) [.val (.tup (bs.map Bf.d)), .un] = .ok (.bl true) [.val (.tup (bs.map Bf.d)), .un] from rfl, ok_bind]
    show evE cc (.bi .tuple (.cons false (.comp [1] (.call 347 (.cons false (.v 1) .nil)) (.n 1) (.e (.v 0)) .nil) .nil)) [.val (.tup (bs.map Bf.d)), .un] = _
    rw [ev_bi, es_of hc es_end, ok_bind]
    rw [List.map_id]
    rfl
  unfold b347
  rw [s_rt hr]
  rfl
end Lk55
end
section
namespace Lk55
open PySem L2 Mi
/-- a lot of buffers, ascending -/
structure Host (bs : List Bf) : Prop where
  six : ∀ b ∈ bs, b.nm ∈ Six
  ok : ∀ b ∈ bs, b.lo ≤ b.hi
  asc : (bs.map (·.nm)).Pairwise fun x y => (x.cps.toList < y.cps.toList)
  few : bs.length ≤ 6
theorem slt_irrefl (x : Str) : ¬ x.cps.toList < x.cps.toList := List.lt_irrefl _
theorem Host.nodup {bs : List Bf} (h : Host bs) : (bs.map (·.nm)).Nodup := h.asc.imp fun hlt z => by subst z; exact slt_irrefl _ hlt
def rows (bs : List Bf) : List (Key × Mi.D) := bs.map fun b => (.inr b.nm, b.d)
def hostD (bs : List Bf) : Mi.D := .tup (bs.map Bf.d)
def planD (bs : List Bf) : Mi.D := .obj 354 [.dct (rows bs)]
theorem rows_keys (bs : List Bf) : (rows bs).map (·.1) = (bs.map (·.nm)).map Sum.inr := by unfold rows; rw [List.map_map, List.map_map]; rfl
theorem rows_nodup {bs : List Bf} (h : (bs.map (·.nm)).Nodup) : ((rows bs).map (·.1)).Nodup := by
  rw [rows_keys]
  exact nodup_map (fun a b h => Sum.inr.inj h) h
theorem enumD_append (n : Nat) : ∀ (xs ys : List Mi.D), enumD n (xs ++ ys) = enumD n xs ++ enumD (n + xs.length) ys
  | [], ys => by simp [enumD]
  | x :: xs, ys => by
    simp only [List.cons_append, enumD, enumD_append (n + 1) xs ys, List.length_cons]
    rw [show n + 1 + xs.length = n + (xs.length + 1) by omega]
theorem strKeys_rows : ∀ bs : List Bf, strKeys (rows bs) = some (bs.map (·.nm))
  | [] => rfl
  | b :: bs => by
    show (strKeys (rows bs)).map (b.nm :: ·) = _
    rw [strKeys_rows bs]; rfl
theorem look_rows {bs : List Bf} (h : (bs.map (·.nm)).Nodup) {b : Bf} (hb : b ∈ bs) : lookK (rows bs) (.inr b.nm) = some b.d :=
  lookK_get (p := (.inr b.nm, b.d)) (rows_nodup h) (List.mem_map_of_mem (f := fun b : Bf => ((.inr b.nm, b.d) : Key × Mi.D)) hb)
theorem r355 (n : Nat) (bs : List Bf) (h : Host bs) : T.p.run (n + 4) 355 [.ob 354 [], .val (hostD bs)] = .ok .non [.ob 354 [some (.dct (rows bs))], .val (hostD bs)] := by
  rw [run_fn (fn := f355) rfl rfl rfl]
  generalize hcc : T.p.cfg (T.p.run (n + 3)) f355 [.ob 354 [], .val (hostD bs)] = cc
  show endF f355 (evSs cc b355 [.ob 354 [], .val (hostD bs), .un, .un, .un, .un]) = _
  have hfew := h.few
  have s1 : evS cc (.asg 2 (.px .dnew .nil)) [.ob 354 [], .val (hostD bs), .un, .un, .un, .un] = .nx [.ob 354 [], .val (hostD bs), .md [], .un, .un, .un] := by subst hcc; rfl
  have s2 : evI cc (.enum (.call 347 (.cons false (.v 1) .nil))) [.ob 354 [], .val (hostD bs), .md [], .un, .un, .un] = .ok (enumD 0 (bs.map Bf.d)) [.ob 354 [], .val (hostD bs), .md [], .un, .un, .un] := by
    rw [ei_enum, call_val (d := hostD bs) (d' := hostD bs) (ds := []) (e1 := [.ob 354 [], .val (hostD bs), .md [], .un, .un, .un]) (e2 := [.ob 354 [], .val (hostD bs), .md [], .un, .un, .un]) (ps' := [.val (hostD bs)]) (by subst hcc; rfl) (v_val rfl) es_end (by subst hcc; exact r347 n bs (by omega)), ok_bind]
    rfl
  obtain ⟨e4, s3, l, r', k, x3, x4, h1, h2, h3, rfl⟩ := for_inv (c := cc) (tg := .t [3, 4]) (b := .cons (.ife (.bool false (.cons false (.not (.call 350 (.cons false (.v 4) .nil))) (.cons false (.bin false (.sub (.v 4) (.k (.int 0))) 2) .nil))) (.cons (.ret (.bool true .nil)) .nil) .nil) (.cons (.setI 2 (.sub (.v 4) (.k (.int 0))) (.v 4)) .nil)) (e := [.ob 354 [], .val (hostD bs), .md [], .un, .un, .un])
    (I := fun r e => ∃ l r' k x3 x4, bs = l ++ r' ∧ r = enumD k (r'.map Bf.d) ∧ True ∧ e = [.ob 354 [], .val (hostD bs), .md (rows l), x3, x4, .un]) s2 ⟨[], bs, 0, .un, .un, rfl, rfl, trivial, rfl⟩ (by
      rintro x r e ⟨l, r', k, x3, x4, h1, h2, _, rfl⟩
      cases r' with
      | nil => simp [enumD] at h2
      | cons b r' =>
        simp only [List.map_cons, enumD, List.cons.injEq] at h2
        obtain ⟨rfl, rfl⟩ := h2
        have hb : b ∈ bs := by rw [h1]; simp
        have hnd := h.nodup
        rw [h1, List.map_append, List.nodup_append] at hnd
        have hno : ∀ p ∈ rows l, p.1 ≠ (.inr b.nm : Key) := by
          intro p hp z
          obtain ⟨q, hq, rfl⟩ := List.mem_map.mp hp
          have z : q.nm = b.nm := Sum.inr.inj z
          exact hnd.2.2 q.nm (List.mem_map_of_mem hq) b.nm (by simp) z
        have e2 : bindL [.ob 354 [], .val (hostD bs), .md (rows l), x3, x4, .un] (.t [3, 4]) (.tup [.int k, b.d]) = some [.ob 354 [], .val (hostD bs), .md (rows l), .val (.int k), .val b.d, .un] := rfl
        refine ⟨_, by subst hcc; rfl, e2, ?_⟩
        have c1 : evE cc (.call 350 (.cons false (.v 4) .nil)) [.ob 354 [], .val (hostD bs), .md (rows l), .val (.int k), .val b.d, .un] = .ok (.bl true) [.ob 354 [], .val (hostD bs), .md (rows l), .val (.int k), .val b.d, .un] := by
          subst hcc
          exact call_val (ds := []) (e1 := [.ob 354 [], .val (hostD bs), .md (rows l), .val (.int k), .val b.d, .un]) rfl (v_val rfl) es_end (r350 n b (h.six b hb) (h.ok b hb))
        have c0 : evE cc (.sub (.v 4) (.k (.int 0))) [.ob 354 [], .val (hostD bs), .md (rows l), .val (.int k), .val b.d, .un] = .ok (.str b.nm) [.ob 354 [], .val (hostD bs), .md (rows l), .val (.int k), .val b.d, .un] := sub_of (v_val rfl) ev_k rfl
        have c2 : evE cc (.bool false (.cons false (.not (.call 350 (.cons false (.v 4) .nil))) (.cons false (.bin false (.sub (.v 4) (.k (.int 0))) 2) .nil))) [.ob 354 [], .val (hostD bs), .md (rows l), .val (.int k), .val b.d, .un] = .ok (.bl false) [.ob 354 [], .val (hostD bs), .md (rows l), .val (.int k), .val b.d, .un] := by
          rw [bool_go (a := false) (t := false) (not_of c1 rfl) rfl rfl, bool_last, bin_md (k := .inr b.nm) c0 rfl rfl, hasK_not hno]
          rfl
        refine ⟨[.ob 354 [], .val (hostD bs), .md (rows (l ++ [b])), .val (.int k), .val b.d, .un], ?_, l ++ [b], r', k + 1, _, _, by rw [h1]; simp, rfl, trivial, rfl⟩
        have hll : l.length ≤ 6 := by rw [h1, List.length_append] at hfew; omega
        rw [s_step (ife_f c2 rfl), s_step (setI_md (k := .inr b.nm) (v_val rfl) rfl c0 rfl rfl (by unfold rows; rw [List.length_map]; have := line_of (k := 7) (by decide); omega)), putD_new hno]
        show Fl.nx _ = Fl.nx _
        unfold rows
        rw [List.map_append]
        rfl)
  have hr' : r' = [] := by cases r' with | nil => rfl | cons _ _ => simp [enumD] at h2
  subst hr'
  rw [List.append_nil] at h1
  subst h1
  have t1 : evE cc (.bi .sorted (.cons false (.v 2) .nil)) [.ob 354 [], .val (hostD bs), .md (rows bs), x3, x4, .un] = .ok (.lst ((bs.map (·.nm)).map .str)) [.ob 354 [], .val (hostD bs), .val (.dct (rows bs)), x3, x4, .un] := by
    refine bi_of (v_md rfl (by subst hcc; rfl)) ?_
    show (match strKeys (rows bs) with | some ks => if ks.length < 64 then some (Mi.D.lst (isort [] (ks.map .str))) else none | none => none) = _
    rw [strKeys_rows]
    simp only
    rw [if_pos (by rw [List.length_map]; omega), isort_id]
    · rfl
    · rw [List.nil_append, List.pairwise_map]
      refine h.asc.imp fun {x y} hlt => ?_
      show decide (y.cps.toList < x.cps.toList) = false
      exact decide_eq_false fun z => slt_irrefl _ (List.lt_trans hlt z)
  have t2 : evE cc (.dcomp [5] (.v 5) (.bsub 2 (.v 5)) (.n 5) (.e (.bi .sorted (.cons false (.v 2) .nil))) .nil) [.ob 354 [], .val (hostD bs), .md (rows bs), x3, x4, .un] = .ok (.dct (rows bs)) [.ob 354 [], .val (hostD bs), .val (.dct (rows bs)), x3, x4, .un] := by
    rw [dcomp_m (xs := (bs.map (·.nm)).map .str) (e1 := [.ob 354 [], .val (hostD bs), .val (.dct (rows bs)), x3, x4, .un]) (kf := fun x => match x with | .str s => .inr s | _ => .inl 0) (g := fun x => match x with | .str s => (lookK (rows bs) (.inr s)).getD .non | _ => .non) (by rw [ei_e, t1, ok_bind]; rfl) (by subst hcc; rfl) (by rw [List.length_map, List.length_map]; have := line_of (k := 7) (by decide); omega) ?_ ?_]
    · have e1 : ((bs.map (·.nm)).map Mi.D.str).map (fun x => ((match x with | .str s => .inr s | _ => .inl 0 : Key), (match x with | .str s => (lookK (rows bs) (.inr s)).getD .non | _ => .non : Mi.D))) = rows bs := by
        unfold rows
        rw [List.map_map, List.map_map]
        refine List.map_congr_left fun b hb => ?_
        show ((.inr b.nm : Key), (lookK (rows bs) (.inr b.nm)).getD .non) = _
        rw [look_rows h.nodup hb]; rfl
      rw [e1, putAll_new]
      · rfl
      · exact rows_nodup h.nodup
    · intro x hx
      obtain ⟨s, _, rfl⟩ := List.mem_map.mp hx
      exact ⟨.str s, v_val rfl, rfl⟩
    · intro x hx
      obtain ⟨s, hs, rfl⟩ := List.mem_map.mp hx
      obtain ⟨b, hb, rfl⟩ := List.mem_map.mp hs
      refine bsub_of (x := .dct (rows bs)) (x0 := .dct (rows bs)) (y := .str b.nm) rfl (v_val rfl) rfl ?_
      show lookK (rows bs) (.inr b.nm) = some ((lookK (rows bs) (.inr b.nm)).getD .non)
      rw [look_rows h.nodup hb]; rfl
  unfold b355
  rw [s_step s1, s_step s3, s_step (setA_of (k := 0) t2 rfl (by subst hcc; rfl))]
  subst hcc
  rfl
theorem plan_of (n : Nat) (bs : List Bf) (h : Host bs) : T.p.run (n + 5) 354 [.val (hostD bs)] = .ok (planD bs) [.val (hostD bs)] := by
  show runC (T.p.run (n + 4)) (354, 355, []) [.val (hostD bs)] = _
  unfold runC
  rw [if_pos (show [P.val (hostD bs)].all isVal = true from rfl)]
  show (match T.p.run (n + 4) 355 [.ob 354 [], .val (hostD bs)] with | .ok d ps' => _ | .ex x _ => _ | .no => _) = _
  rw [r355 n bs h]
  rfl
end Lk55
end
section
namespace Lk55
open PySem L2 Mi
/-! drawn hosts -/
abbrev slt (x y : Str) : Prop := x.cps.toList < y.cps.toList
theorem six_total : ∀ s ∈ Six, ∀ t ∈ Six, s ≠ t → ¬ slt s t → slt t s := by decide +kernel
theorem ltb_d {x y : Bf} (h : x.nm ≠ y.nm) : x.d.ltb y.d = decide (slt x.nm y.nm) := by
  show (if (x.nm == y.nm) = true then _ else decide (slt x.nm y.nm)) = _
  rw [if_neg (by simpa using h)]
def insB (x : Bf) : List Bf → List Bf
  | [] => [x]
  | y :: ys => if x.d.ltb y.d then x :: y :: ys else y :: insB x ys
def sortB : List Bf → List Bf → List Bf
  | acc, [] => acc
  | acc, x :: xs => sortB (insB x acc) xs
theorem ins_map (x : Bf) : ∀ ys : List Bf, ins x.d (ys.map Bf.d) = (insB x ys).map Bf.d
  | [] => rfl
  | y :: ys => by
    show (if x.d.ltb y.d then x.d :: y.d :: ys.map Bf.d else y.d :: ins x.d (ys.map Bf.d)) = _
    unfold insB
    rw [ins_map x ys]
    split <;> rfl
theorem isort_map : ∀ xs acc : List Bf, isort (acc.map Bf.d) (xs.map Bf.d) = (sortB acc xs).map Bf.d
  | [], acc => rfl
  | x :: xs, acc => by
    show isort (ins x.d (acc.map Bf.d)) (xs.map Bf.d) = _
    rw [ins_map, isort_map]
    rfl
theorem insB_perm (x : Bf) : ∀ ys : List Bf, (insB x ys).Perm (x :: ys)
  | [] => List.Perm.refl _
  | y :: ys => by
    unfold insB
    split
    · exact List.Perm.refl _
    · exact ((insB_perm x ys).cons y).trans (List.Perm.swap x y ys)
theorem sortB_perm : ∀ xs acc : List Bf, (sortB acc xs).Perm (acc ++ xs)
  | [], acc => by simp [sortB]
  | x :: xs, acc => by
    refine (sortB_perm xs (insB x acc)).trans ?_
    refine ((insB_perm x acc).append_right xs).trans ?_
    simpa using (List.perm_middle (a := x) (l₁ := acc) (l₂ := xs)).symm
theorem insB_asc (x : Bf) (hx : x.nm ∈ Six) : ∀ ys : List Bf, (∀ y ∈ ys, y.nm ∈ Six ∧ x.nm ≠ y.nm) → (ys.map (·.nm)).Pairwise slt → ((insB x ys).map (·.nm)).Pairwise slt
  | [], _, _ => by simp [insB]
  | y :: ys, h, hp => by
    rw [List.map_cons, List.pairwise_cons] at hp
    obtain ⟨hy, hne⟩ := h y List.mem_cons_self
    unfold insB
    rw [ltb_d hne]
    by_cases hlt : slt x.nm y.nm
    · rw [if_pos (decide_eq_true hlt)]
      rw [List.map_cons, List.map_cons, List.pairwise_cons, List.pairwise_cons]
      refine ⟨fun z hz => ?_, hp⟩
      rcases List.mem_cons.mp hz with e | e
      · rw [e]; exact hlt
      · exact List.lt_trans hlt (hp.1 z e)
    · rw [if_neg (by simpa using hlt)]
      rw [List.map_cons, List.pairwise_cons]
      refine ⟨fun z hz => ?_, insB_asc x hx ys (fun y hy => h y (List.mem_cons_of_mem _ hy)) hp.2⟩
      obtain ⟨b, hb, rfl⟩ := List.mem_map.mp hz
      rcases List.mem_cons.mp ((insB_perm x ys).mem_iff.mp hb) with e | e
      · rw [e]; exact six_total _ hx _ hy hne hlt
      · exact hp.1 _ (List.mem_map_of_mem e)
theorem sortB_asc : ∀ xs acc : List Bf, (∀ y ∈ acc ++ xs, y.nm ∈ Six) → ((acc ++ xs).map (·.nm)).Nodup → (acc.map (·.nm)).Pairwise slt → ((sortB acc xs).map (·.nm)).Pairwise slt
  | [], acc, _, _, h => h
  | x :: xs, acc, hs, hn, h => by
    have hx : ∀ y ∈ acc, y.nm ∈ Six ∧ x.nm ≠ y.nm := fun y hy => ⟨hs y (by simp [hy]), fun z => by
      rw [List.map_append, List.nodup_append] at hn
      exact hn.2.2 y.nm (List.mem_map_of_mem hy) x.nm (by simp) z.symm⟩
    have hp : (insB x acc ++ xs).Perm (acc ++ x :: xs) := ((insB_perm x acc).append_right xs).trans (by simpa using (List.perm_middle (a := x) (l₁ := acc) (l₂ := xs)).symm)
    exact sortB_asc xs (insB x acc) (fun y hy => hs y (hp.mem_iff.mp hy)) (((hp.map _).nodup_iff).mpr hn) (insB_asc x (hs x (by simp)) acc hx h)
theorem fit_d (b : Bf) : b.d.fit deep = true := rfl
theorem sort_d (l : List Bf) : sortD (l.map Bf.d) = some ((sortB [] l).map Bf.d) := by
  have h1 : (l.map Bf.d).all (·.fit deep) = true := by
    rw [List.all_map]
    exact List.all_eq_true.mpr fun b _ => fit_d b
  have h2 : allAlk (l.map Bf.d) = true := by
    unfold allAlk
    rw [List.all_map]
    refine List.all_eq_true.mpr fun b _ => ?_
    show (l.map Bf.d).all _ = true
    rw [List.all_map]
    exact List.all_eq_true.mpr fun b2 _ => rfl
  have h3 : sortable (l.map Bf.d) = true := by
    unfold sortable
    rw [Bool.or_eq_true]
    left
    rw [List.all_map]
    exact List.all_eq_true.mpr fun b _ => rfl
  unfold sortD
  rw [h1, h2, h3]
  exact congrArg some (isort_map l [])
theorem strs_of : ∀ {l : List Mi.D}, (∀ x ∈ l, x ∈ Six.map Mi.D.str) → ∃ ss : List Str, l = ss.map .str ∧ ∀ s ∈ ss, s ∈ Six
  | [], _ => ⟨[], rfl, by simp⟩
  | x :: l, h => by
    obtain ⟨ss, h1, h2⟩ := strs_of fun y hy => h y (List.mem_cons_of_mem _ hy)
    obtain ⟨s, hs, rfl⟩ := List.mem_map.mp (h x List.mem_cons_self)
    exact ⟨s :: ss, by rw [h1]; rfl, fun t ht => by rcases List.mem_cons.mp ht with e | e; rw [e]; exact hs; exact h2 t e⟩
theorem law_host {N : Int} {p : List Mi.D} (h : Bx N p) (hN : N < 2 ^ 50) (n : Nat) : ∃ bs p', Host bs ∧ bs ≠ [] ∧ (∀ b ∈ bs, b.lo ≤ 6 ∧ b.hi ≤ 9) ∧ Bx (N + 20) p' ∧ T.p.run (n + 3) 1001 [.ml p, .val (.int 6)] = .ok (hostD bs) [.ml p', .val (.int 6)] := by
  rw [run_fn (fn := f1001) rfl rfl rfl]
  generalize hcc : T.p.cfg (T.p.run (n + 2)) f1001 [.ml p, .val (.int 6)] = cc
  show ∃ bs p', _ ∧ _ ∧ _ ∧ _ ∧ endF f1001 (evSs cc b1001 [.ml p, .val (.int 6), .un, .un, .un]) = _
  have s1 : evS cc (.asg 2 (.lst .nil)) [.ml p, .val (.int 6), .un, .un, .un] = .nx [.ml p, .val (.int 6), .ml [], .un, .un] := by subst hcc; rfl
  obtain ⟨v, p1, v1, v2, b1, r1⟩ := take h (by omega) (s := 6) (by decide) (by decide) (n + 1)
  obtain ⟨found, pool, p2, q1, q2, b2, r2⟩ := law_pick (goods := Six.map Mi.D.str) (k := 1 + v) b1 (by simp [Six]; omega) (by simp [Six]) (by omega) n
  have hsix : (Six.map Mi.D.str).length = 6 := rfl
  rw [hsix] at q2 b2
  obtain ⟨ss, rfl, hss⟩ := strs_of (l := found) fun x hx => q1.mem_iff.mp (by simp [hx])
  have hnd : ss.Nodup := by
    have h6 : (Six.map Mi.D.str).Nodup := nodup_map (fun a b h => by cases h; rfl) (by decide +kernel : Six.Nodup)
    have h7 := (List.nodup_append.mp (q1.nodup_iff.mpr h6)).1
    exact List.Pairwise.imp (fun hne z => hne (by rw [z])) (List.pairwise_map.mp h7)
  have c14 : evE cc (.call 14 (.cons false (.v 0) (.cons false (.lst (.cons false (.k (.str ("a" : PySem.Str))) (.cons false (.k (.str ("b" : PySem.Str))) (.cons false (.k (.str ("c" : PySem.Str))) (.cons false (.k (.str ("dd" : PySem.Str))) (.cons false (.k (.str ("e" : PySem.Str))) (.cons false (.k (.str ("zoe" : PySem.Str))) .nil))))))) (.cons false (.bop .Add (.k (.int 1)) (.call 11 (.cons false (.v 0) (.cons false (.v 1) .nil)))) .nil)))) [.ml p, .val (.int 6), .ml [], .un, .un] = .ok (.lst (ss.map .str)) [.ml p2, .val (.int 6), .ml [], .un, .un] := by
    subst hcc
    refine call_lend (ds := [.lst (Six.map Mi.D.str), .int (1 + v)]) (e1 := [.ml p1, .val (.int 6), .ml [], .un, .un]) rfl rfl (es_of (e1 := [.ml p, .val (.int 6), .ml [], .un, .un]) rfl (es_of (e1 := [.ml p1, .val (.int 6), .ml [], .un, .un]) ?_ es_end)) rfl r2 rfl
    exact bop_of ev_k (call_lend (ds := [.int 6]) (e1 := [.ml p, .val (.int 6), .ml [], .un, .un]) rfl rfl (es_of (v_val rfl) es_end) rfl r1 rfl) rfl
  have s2 : evI cc (.e (.call 14 (.cons false (.v 0) (.cons false (.lst (.cons false (.k (.str ("a" : PySem.Str))) (.cons false (.k (.str ("b" : PySem.Str))) (.cons false (.k (.str ("c" : PySem.Str))) (.cons false (.k (.str ("dd" : PySem.Str))) (.cons false (.k (.str ("e" : PySem.Str))) (.cons false (.k (.str ("zoe" : PySem.Str))) .nil))))))) (.cons false (.bop .Add (.k (.int 1)) (.call 11 (.cons false (.v 0) (.cons false (.v 1) .nil)))) .nil))))) [.ml p, .val (.int 6), .ml [], .un, .un] = .ok (ss.map .str) [.ml p2, .val (.int 6), .ml [], .un, .un] := by
    rw [ei_e, c14, ok_bind]; rfl
  rw [List.length_map] at q2
  have hlen : ss.length ≤ 6 ∧ 1 ≤ ss.length := by omega
  obtain ⟨e4, s3, l, rs, p3, x3, x4, h1, h2, h3, h4, rfl⟩ := for_inv (c := cc) (tg := .n 3) (b := .cons (.asg 4 (.call 11 (.cons false (.v 0) (.cons false (.k (.int 7)) .nil)))) (.cons (.app 2 (.tup (.cons false (.v 3) (.cons false (.v 4) (.cons false (.bop .Add (.v 4) (.call 13 (.cons false (.v 0) (.cons false (.lst (.cons false (.k (.int 0)) (.cons false (.k (.int 1)) (.cons false (.k (.int 1)) (.cons false (.k (.int 2)) (.cons false (.k (.int 3)) .nil)))))) .nil)))) .nil))))) .nil)) (e := [.ml p, .val (.int 6), .ml [], .un, .un])
    (I := fun r e => ∃ l rs p3 x3 x4, ss = l.map (·.nm) ++ rs ∧ r = rs.map .str ∧ (∀ b ∈ l, b.lo ≤ b.hi ∧ b.lo ≤ 6 ∧ b.hi ≤ 9) ∧ Bx (N + 7 + 2 * l.length) p3 ∧ e = [.ml p3, .val (.int 6), .ml (l.map Bf.d), x3, x4]) s2 ⟨[], ss, p2, .un, .un, rfl, rfl, by simp, b2.mono (by simp; omega), rfl⟩ (by
      rintro x r e ⟨l, rs, p3, x3, x4, h1, h2, h3, h4, rfl⟩
      cases rs with
      | nil => cases h2
      | cons s rs =>
        simp only [List.map_cons, List.cons.injEq] at h2
        obtain ⟨rfl, rfl⟩ := h2
        have hll : l.length ≤ 6 := by have := congrArg List.length h1; simp at this; omega
        obtain ⟨w, p4, w1, w2, b4, r4⟩ := take h4 (by omega) (s := 7) (by decide) (by decide) (n + 1)
        obtain ⟨d, p5, d1, b5, r5⟩ := law_of b4 (by omega) (goods := .lst [.int 0, .int 1, .int 1, .int 2, .int 3]) (.inl rfl) (by simp) (by simp) n
        obtain ⟨j, hj, rfl⟩ : ∃ j : Nat, j ≤ 3 ∧ d = .int (Int.ofNat j) := by
          simp only [List.mem_cons, List.not_mem_nil, or_false] at d1
          rcases d1 with e | e | e | e | e <;> subst e
          · exact ⟨0, by omega, rfl⟩
          · exact ⟨1, by omega, rfl⟩
          · exact ⟨1, by omega, rfl⟩
          · exact ⟨2, by omega, rfl⟩
          · exact ⟨3, by omega, rfl⟩
        obtain ⟨k, rfl⟩ : ∃ k : Nat, w = Int.ofNat k := ⟨w.toNat, by simp; omega⟩
        have hk : k ≤ 6 := by have := w2; simp at this; omega
        refine ⟨[.ml p3, .val (.int 6), .ml (l.map Bf.d), .val (.str s), x4], by subst hcc; rfl, rfl, ?_⟩
        have t1 : evS cc (.asg 4 (.call 11 (.cons false (.v 0) (.cons false (.k (.int 7)) .nil)))) [.ml p3, .val (.int 6), .ml (l.map Bf.d), .val (.str s), x4] = .nx [.ml p4, .val (.int 6), .ml (l.map Bf.d), .val (.str s), .val (.int (Int.ofNat k))] := by
          subst hcc
          exact asg_of (d := .int (Int.ofNat k)) (e1 := [.ml p4, .val (.int 6), .ml (l.map Bf.d), .val (.str s), x4]) (call_lend (ds := [.int 7]) (e1 := [.ml p3, .val (.int 6), .ml (l.map Bf.d), .val (.str s), x4]) rfl rfl rfl rfl r4 rfl) rfl
        have t2 : evE cc (.tup (.cons false (.v 3) (.cons false (.v 4) (.cons false (.bop .Add (.v 4) (.call 13 (.cons false (.v 0) (.cons false (.lst (.cons false (.k (.int 0)) (.cons false (.k (.int 1)) (.cons false (.k (.int 1)) (.cons false (.k (.int 2)) (.cons false (.k (.int 3)) .nil)))))) .nil)))) .nil)))) [.ml p4, .val (.int 6), .ml (l.map Bf.d), .val (.str s), .val (.int (Int.ofNat k))] = .ok (Bf.d ⟨s, k, k + j⟩) [.ml p5, .val (.int 6), .ml (l.map Bf.d), .val (.str s), .val (.int (Int.ofNat k))] := by
          subst hcc
          rw [ev_tup, es_of (v_val (d := .str s) rfl) (es_of (v_val (d := .int (Int.ofNat k)) rfl) (es_of (bop_of (d := .int (Int.ofNat k + Int.ofNat j)) (v_val (d := .int (Int.ofNat k)) rfl) (call_lend (d := .int (Int.ofNat j)) (ds := [.lst [.int 0, .int 1, .int 1, .int 2, .int 3]]) (e1 := [.ml p4, .val (.int 6), .ml (l.map Bf.d), .val (.str s), .val (.int (Int.ofNat k))]) rfl rfl rfl rfl r5 rfl) rfl) es_end)), ok_bind]
          rw [if_pos (line_of (by simp))]
          rfl
        refine ⟨_, by rw [s_step t1, s_step (app_of rfl t2 rfl (by rw [List.length_map]; have := line_of (k := 7) (by decide); omega))]; rfl, l ++ [⟨s, k, k + j⟩], rs, p5, .val (.str s), .val (.int (Int.ofNat k)), by rw [h1]; simp, rfl, ?_, b5.mono (by simp; omega), ?_⟩
        · intro b hb
          rcases List.mem_append.mp hb with e | e
          · exact h3 b e
          · simp at e; subst e; simp; omega
        · rw [List.map_append]; rfl)
  have hrs : rs = [] := by cases rs with | nil => rfl | cons _ _ => cases h2
  subst hrs
  rw [List.append_nil] at h1
  have hll : l.length = ss.length := by rw [h1, List.length_map]
  have hpm := sortB_perm l []
  rw [List.nil_append] at hpm
  refine ⟨sortB [] l, p3, ⟨fun b hb => ?_, fun b hb => (h3 b (hpm.mem_iff.mp hb)).1, sortB_asc l [] (fun y hy => ?_) (by rw [List.nil_append, ← h1]; exact hnd) (by simp), by rw [hpm.length_eq]; omega⟩, fun z => ?_, fun b hb => (h3 b (hpm.mem_iff.mp hb)).2, h4.mono (by omega), ?_⟩
  · exact hss _ (by rw [h1]; exact List.mem_map_of_mem (hpm.mem_iff.mp hb))
  · exact hss _ (by rw [h1]; exact List.mem_map_of_mem (by simpa using hy))
  · have := hpm.length_eq
    rw [z] at this
    simp at this
    omega
  · have t3 : evE cc (.bi .tuple (.cons false (.bi .sorted (.cons false (.v 2) .nil)) .nil)) [.ml p3, .val (.int 6), .ml (l.map Bf.d), x3, x4] = .ok (hostD (sortB [] l)) [.ml p3, .val (.int 6), .val (.lst (l.map Bf.d)), x3, x4] := by
      refine bi_of (x := .lst ((sortB [] l).map Bf.d)) (bi_of (v_ml rfl (by subst hcc; rfl)) ?_) rfl
      show (sortD (l.map Bf.d)).map Mi.D.lst = _
      rw [sort_d]; rfl
    unfold b1001
    rw [s_step s1, s_step s3, s_rt (ret_of t3 (by subst hcc; rfl))]
    rfl
end Lk55
end
section
namespace Mi
open PySem L2
section
variable {c : Cfg} {e e1 : En}
theorem attr_fld {o : M} {x j k : Nat} {fs : List D} {d : D} (h : evE c o e = .ok (.obj j fs) e1) (h2 : c.at_ j x = some (.fld k)) (h3 : fs[k]? = some d) : evE c (.attr o x) e = .ok d e1 := by
  rw [ev_attr]; unfold xAttr; rw [h, ok_bind]; simp only; rw [h2]; simp only; rw [h3]; rfl
theorem attr_prop {o : M} {x j i : Nat} {fs : List D} {d : D} {ps' : List P} (h : evE c o e = .ok (.obj j fs) e1) (h2 : c.at_ j x = some (.prop i)) (ho : c.own i = false) (h3 : c.cf i [.val (.obj j fs)] = .ok d ps') : evE c (.attr o x) e = .ok d e1 := by
  rw [ev_attr]; unfold xAttr; rw [h, ok_bind]; simp only; rw [h2]; simp only; rw [ho]
  unfold doCall
  rw [h3]; rfl
theorem px_of {o : Px} {l : Ms} {ds : List D} {d : D} (h1 : esC (evEs c l) e = .ok ds e1) (h2 : pxD o ds = some d) : evE c (.px o l) e = .ok d e1 := by
  rw [ev_px, h1, ok_bind, h2]; rfl
theorem olen_of {o : M} {j i : Nat} {fs : List D} {k : Nat} {ps' : List P} (h : evE c o e = .ok (.obj j fs) e1) (h2 : c.at_ j 0 = some (.meth i)) (h3 : c.cf i [.val (.obj j fs)] = .ok (.int (Int.ofNat k)) ps') (hk : k ≤ 1000) : evE c (.olen o) e = .ok (.int (Int.ofNat k)) e1 := by
  rw [ev_olen]; unfold xOlen; rw [h, ok_bind]; simp only; rw [h2]; simp only
  unfold doCall
  rw [h3]
  have h9 : 0 ≤ Int.ofNat k ∧ Int.ofNat k < big := by
    have : big = 4611686018427387904 := rfl
    rw [this]
    constructor
    · exact Int.natCast_nonneg k
    · have : (Int.ofNat k) = (k : Int) := rfl
      omega
  simp only [backS]
  rw [show ∀ (d : D) (e : En), (R.ok d e).calm = R.ok d e from fun _ _ => rfl, ok_bind]
  exact if_pos h9
theorem ite_t {t a b : M} {d : D} (h : evE c t e = .ok d e1) (ht : tru d = some true) : evE c (.ite t a b) e = evE c a e1 := by rw [ev_ite, h, ok_bind, ht]; rfl
theorem ite_f {t a b : M} {d : D} (h : evE c t e = .ok d e1) (ht : tru d = some false) : evE c (.ite t a b) e = evE c b e1 := by rw [ev_ite, h, ok_bind, ht]; rfl
end
end Mi
namespace Lk55
open PySem L2 Mi
def nD (k : Nat) : Mi.D := .int (Int.ofNat k)
def nmL (bs : List Bf) : List Mi.D := bs.map fun b => .str b.nm
def valL (bs : List Bf) (f : Str → Nat) : List Mi.D := bs.map fun b => nD (f b.nm)
def valK (bs : List Bf) (f : Str → Nat) : List (Key × Mi.D) := bs.map fun b => (.inr b.nm, nD (f b.nm))
def meet (a b : Bf) : Bool := decide (a.lo ≤ b.hi) && decide (b.lo ≤ a.hi)
theorem r1000 (n : Nat) (a b : Bf) : T.p.run (n + 1) 1000 [.val a.d, .val b.d] = .ok (.bl (meet a b)) [.val a.d, .val b.d] := by
  rw [run_fn (fn := f1000) rfl rfl rfl]
  generalize hcc : T.p.cfg (T.p.run n) f1000 [.val a.d, .val b.d] = cc
  show endF f1000 (evSs cc b1000 [.val a.d, .val b.d]) = _
  unfold b1000 meet
  have h1 : evE cc (.cmp (.sub (.v 0) (.k (.int 1))) .LtE (.sub (.v 1) (.k (.int 2)))) [.val a.d, .val b.d] = .ok (.bl (decide (a.lo ≤ b.hi))) [.val a.d, .val b.d] := by
    refine cmp_of (x := nD a.lo) (y := nD b.hi) (sub_of (v_val rfl) ev_k rfl) (sub_of (v_val rfl) ev_k rfl) ?_
    show some (decide (Int.ofNat a.lo ≤ Int.ofNat b.hi)) = _
    simp
  have h2 : evE cc (.cmp (.sub (.v 1) (.k (.int 1))) .LtE (.sub (.v 0) (.k (.int 2)))) [.val a.d, .val b.d] = .ok (.bl (decide (b.lo ≤ a.hi))) [.val a.d, .val b.d] := by
    refine cmp_of (x := nD b.lo) (y := nD a.hi) (sub_of (v_val rfl) ev_k rfl) (sub_of (v_val rfl) ev_k rfl) ?_
    show some (decide (Int.ofNat b.lo ≤ Int.ofNat a.hi)) = _
    simp
  cases q : decide (a.lo ≤ b.hi) with
  | true => rw [q] at h1; rw [s_rt (ret_of ((bool_go (a := true) h1 rfl rfl).trans (bool_last.trans h2)) (by subst hcc; rfl))]; simp; rfl
  | false => rw [q] at h1; rw [s_rt (ret_of (bool_stop (a := true) h1 rfl (by simp)) (by subst hcc; rfl))]; simp; rfl
theorem r351 (n : Nat) (a b : Bf) : T.p.run (n + 1) 351 [.val a.d, .val b.d] = .ok (.bl (meet a b)) [.val a.d, .val b.d] := by
  rw [run_fn (fn := f351) rfl rfl rfl]
  generalize hcc : T.p.cfg (T.p.run n) f351 [.val a.d, .val b.d] = cc
  show endF f351 (evSs cc b351 [.val a.d, .val b.d]) = _
  unfold b351 meet
  have h1 : evE cc (.cmp (.sub (.v 0) (.k (.int 1))) .LtE (.sub (.v 1) (.k (.int 2)))) [.val a.d, .val b.d] = .ok (.bl (decide (a.lo ≤ b.hi))) [.val a.d, .val b.d] := by
    refine cmp_of (x := nD a.lo) (y := nD b.hi) (sub_of (v_val rfl) ev_k rfl) (sub_of (v_val rfl) ev_k rfl) ?_
    show some (decide (Int.ofNat a.lo ≤ Int.ofNat b.hi)) = _
    simp
  have h2 : evE cc (.cmp (.sub (.v 1) (.k (.int 1))) .LtE (.sub (.v 0) (.k (.int 2)))) [.val a.d, .val b.d] = .ok (.bl (decide (b.lo ≤ a.hi))) [.val a.d, .val b.d] := by
    refine cmp_of (x := nD b.lo) (y := nD a.hi) (sub_of (v_val rfl) ev_k rfl) (sub_of (v_val rfl) ev_k rfl) ?_
    show some (decide (Int.ofNat b.lo ≤ Int.ofNat a.hi)) = _
    simp
  cases q : decide (a.lo ≤ b.hi) with
  | true => rw [q] at h1; rw [s_rt (ret_of ((bool_go (a := true) h1 rfl rfl).trans (bool_last.trans h2)) (by subst hcc; rfl))]; simp; rfl
  | false => rw [q] at h1; rw [s_rt (ret_of (bool_stop (a := true) h1 rfl (by simp)) (by subst hcc; rfl))]; simp; rfl
theorem r357 (n : Nat) (bs : List Bf) (h : bs.length ≤ 6) : T.p.run (n + 1) 357 [.val (planD bs)] = .ok (hostD bs) [.val (planD bs)] := by
  rw [run_fn (fn := f357) rfl rfl rfl]
  generalize hcc : T.p.cfg (T.p.run n) f357 [.val (planD bs)] = cc
  show endF f357 (evSs cc b357 [.val (planD bs)]) = _
  have h1 : evE cc (.px .tvals (.cons false (.attr (.v 0) 39) .nil)) [.val (planD bs)] = .ok (hostD bs) [.val (planD bs)] := by
    refine px_of (es_of (attr_fld (j := 354) (k := 0) (fs := [.dct (rows bs)]) (v_val rfl) (by subst hcc; rfl) rfl) es_end) ?_
    show (if (rows bs).length ≤ 1000 then some (Mi.D.tup ((rows bs).map (·.2))) else none) = _
    rw [if_pos (by unfold rows; rw [List.length_map]; omega)]
    unfold rows hostD
    rw [List.map_map]; rfl
  unfold b357
  rw [s_rt (ret_of h1 (by subst hcc; rfl))]
  rfl
theorem r358 (n : Nat) (bs : List Bf) (h : bs.length ≤ 6) : T.p.run (n + 1) 358 [.val (planD bs)] = .ok (.tup (nmL bs)) [.val (planD bs)] := by
  rw [run_fn (fn := f358) rfl rfl rfl]
  generalize hcc : T.p.cfg (T.p.run n) f358 [.val (planD bs)] = cc
  show endF f358 (evSs cc b358 [.val (planD bs)]) = _
  have h1 : evE cc (.bi .tuple (.cons false (.attr (.v 0) 39) .nil)) [.val (planD bs)] = .ok (.tup (nmL bs)) [.val (planD bs)] := by
    refine bi_of (attr_fld (j := 354) (k := 0) (fs := [.dct (rows bs)]) (v_val rfl) (by subst hcc; rfl) rfl) ?_
    show (if (rows bs).length ≤ 1000 then some (Mi.D.tup ((rows bs).map fun p => kD p.1)) else none) = _
    rw [if_pos (by unfold rows; rw [List.length_map]; omega)]
    unfold rows nmL
    rw [List.map_map]; rfl
  unfold b358
  rw [s_rt (ret_of h1 (by subst hcc; rfl))]
  rfl
theorem r361 (n : Nat) (bs : List Bf) (h : bs.length ≤ 6) : T.p.run (n + 1) 361 [.val (planD bs)] = .ok (nD bs.length) [.val (planD bs)] := by
  rw [run_fn (fn := f361) rfl rfl rfl]
  generalize hcc : T.p.cfg (T.p.run n) f361 [.val (planD bs)] = cc
  show endF f361 (evSs cc b361 [.val (planD bs)]) = _
  have h1 : evE cc (.bi .len (.cons false (.attr (.v 0) 39) .nil)) [.val (planD bs)] = .ok (nD bs.length) [.val (planD bs)] := by
    refine bi_of (attr_fld (j := 354) (k := 0) (fs := [.dct (rows bs)]) (v_val rfl) (by subst hcc; rfl) rfl) ?_
    have : (rows bs).length = bs.length := by unfold rows; rw [List.length_map]
    rw [← this]
    first
      | rfl
      | (show (if _ then _ else _) = _; rw [if_pos (by first | omega | (have := line_of (k := 6) (by decide); omega))]; rfl)
  unfold b361
  rw [s_rt (ret_of h1 (by subst hcc; rfl))]
  rfl
theorem zipK_val (f : Str → Nat) : ∀ bs : List Bf, zipKs (nmL bs) (valL bs f) = some (valK bs f)
  | [] => rfl
  | b :: bs => by
    have := zipK_val f bs
    unfold nmL valL valK at this
    unfold nmL valL valK
    simp only [List.map_cons]
    unfold zipKs
    first
      | (rw [this]; rfl)
      | (simp only [this]; rfl)
theorem valK_keys (bs : List Bf) (f : Str → Nat) : (valK bs f).map (·.1) = (rows bs).map (·.1) := by unfold valK rows; rw [List.map_map, List.map_map]; rfl
theorem look_val {bs : List Bf} (h : (bs.map (·.nm)).Nodup) (f : Str → Nat) {s : Str} (hs : s ∈ bs.map (·.nm)) : lookK (valK bs f) (.inr s) = some (nD (f s)) := by
  obtain ⟨b, hb, rfl⟩ := List.mem_map.mp hs
  exact lookK_get (p := (.inr b.nm, nD (f b.nm))) (by rw [valK_keys]; exact rows_nodup h) (List.mem_map_of_mem (f := fun b : Bf => ((.inr b.nm, nD (f b.nm)) : Key × Mi.D)) hb)
def seqT (t : Bool) (xs : List Mi.D) : Mi.D := if t then .tup xs else .lst xs
theorem r293 (n : Nat) (bs : List Bf) (h : Host bs) (f : Str → Nat) (t : Bool) : T.p.run (n + 2) 293 [.val (planD bs), .val (seqT t (valL bs f))] = .ok (.dct (valK bs f)) [.val (planD bs), .val (seqT t (valL bs f))] := by
  rw [run_fn (fn := f293) rfl rfl rfl]
  generalize hcc : T.p.cfg (T.p.run (n + 1)) f293 [.val (planD bs), .val (seqT t (valL bs f))] = cc
  show endF f293 (evSs cc b293 [.val (planD bs), .val (seqT t (valL bs f))]) = _
  have h1 : evE cc (.px .dzip (.cons false (.attr (.v 0) 3) (.cons false (.v 1) .nil))) [.val (planD bs), .val (seqT t (valL bs f))] = .ok (.dct (valK bs f)) [.val (planD bs), .val (seqT t (valL bs f))] := by
    refine px_of (es_of (attr_prop (j := 354) (i := 358) (fs := [.dct (rows bs)]) (v_val rfl) (by subst hcc; rfl) (by subst hcc; rfl) (by subst hcc; exact r358 n bs h.few)) (es_of (v_val rfl) es_end)) ?_
    have e1 : (zipKs (nmL bs) (valL bs f)).map (fun kvs => Mi.D.dct (putAllD [] kvs)) = some (.dct (valK bs f)) := by
      rw [zipK_val]
      show some (Mi.D.dct (putAllD [] (valK bs f))) = _
      rw [putAll_new (valK bs f) [] (by rw [List.nil_append, valK_keys]; exact rows_nodup h.nodup)]
      rfl
    cases t <;> exact e1
  unfold b293
  rw [s_rt (ret_own h1 rfl)]
  rfl
end Lk55
end
section
namespace Mi
open PySem L2
section
variable {c : Cfg} {e e1 : En}
/-- a for that answers d at the first item of a kind -/
theorem for_any {tg : Tg} {it : It} {b : Ss} {xs : List D} {I : En → Prop} {p : D → Bool} {d : D} (h : evI c it e = .ok xs e1) (h0 : I e1)
    (hs : ∀ x ∈ xs, ∀ e, I e → ∃ e2, okTg c e tg = true ∧ bindL e tg x = some e2 ∧ ∃ e3, I e3 ∧ evSs c b e2 = (if p x = true then .nx e3 else .rt d e3)) : ∃ e4, I e4 ∧ evS c (.for tg it b) e = (if xs.all p = true then .nx e4 else .rt d e4) := by
  rw [s_for, h, ok_fl]
  clear h
  induction xs generalizing e1 with
  | nil => exact ⟨e1, h0, rfl⟩
  | cons x r ih =>
    obtain ⟨e2, h1, h2, e3, h3, h4⟩ := hs x List.mem_cons_self e1 h0
    rw [forL_cons, if_pos h1, h2]
    simp only
    rw [h4]
    cases hp : p x with
    | true =>
      simp only [if_true, List.all_cons, hp, Bool.true_and]
      exact ih h3 fun y hy => hs y (List.mem_cons_of_mem _ hy)
    | false =>
      refine ⟨e3, h3, ?_⟩
      simp [List.all_cons, hp]
theorem set_four {α : Type} {l : List α} {i k : Nat} (hik : i ≠ k) {a b x y : α} : (((l.set i a).set k b).set i x).set k y = (l.set i x).set k y := by
  rw [List.set_comm b x (Ne.symm hik), List.set_set, List.set_set]
theorem set_w {α : Type} {l : List α} {i k : Nat} (hik : i ≠ k) {a b x y : α} : (((l.set i a).set k b).set k x).set i y = (l.set k x).set i y := by
  rw [List.set_set, List.set_comm a x hik, List.set_set]
theorem set_u {α : Type} {l : List α} {i k : Nat} (hik : i ≠ k) {a b x y : α} : (((l.set k a).set i b).set i x).set k y = (l.set i x).set k y := by
  rw [List.set_set, List.set_comm a x (Ne.symm hik), List.set_set]
/-- [elt for i, k in it] where nothing else happens -/
theorem comp_t {i k : Nat} {elt : M} {it : It} {xs : List D} {g : D → D} (hik : i ≠ k) (hb : ∀ k, it ≠ .b k) (h : evI c it e = .ok xs e1) (hp : (plainP (gt e1 i) && !c.lent i) = true) (hp2 : (plainP (gt e1 k) && !c.lent k) = true) (hz : xs.length ≤ sizeLine)
    (hel : ∀ x ∈ xs, ∃ a b, (x = .tup [a, b] ∨ x = .lst [a, b]) ∧ evE c elt ((e1.set i (.val a)).set k (.val b)) = .ok (g x) ((e1.set i (.val a)).set k (.val b))) : evE c (.comp [i, k] elt (.t [i, k]) it .nil) e = .ok (.lst (xs.map g)) e1 := by
  have hw : ∀ x y, wipeL ((e1.set i x).set k y) [i, k] = (e1.set k .un).set i .un := fun x y => set_w hik
  obtain ⟨ds, e', h1, ⟨r, h2, h3⟩, h4⟩ := comp_inv (c := c) (own := [i, k]) (tg := .t [i, k]) (elt := elt) (ifs := .nil) (I := fun r ds e => (∃ l, xs = l ++ r ∧ ds = l.map g) ∧ e = (e1.set k .un).set i .un) hb h (by simpa using ⟨by simpa using hp, by simpa using hp2⟩) hz ⟨⟨[], rfl, rfl⟩, rfl⟩ (by
      rintro x r ds e ⟨⟨l, hl, rfl⟩, rfl⟩
      have hx : x ∈ xs := by rw [hl]; simp
      obtain ⟨a, b, hx2, h6⟩ := hel x hx
      have e2 : (((e1.set k .un).set i .un).set i (.val a)).set k (.val b) = (e1.set i (.val a)).set k (.val b) := set_u hik
      exact ⟨(e1.set i (.val a)).set k (.val b), true, (e1.set i (.val a)).set k (.val b), by rw [← e2]; rcases hx2 with rfl | rfl <;> rfl, rfl, .inr ⟨rfl, g x, _, h6, ⟨l ++ [x], by rw [hl]; simp, by simp⟩, hw _ _⟩⟩)
  rw [h1]
  simp only [List.append_nil] at h2
  subst h2
  rw [h3]
  have hbk : backL e1 e' [i, k] = e1 := by
    show (e'.set k (gt e1 k)).set i (gt e1 i) = e1
    have h4 : (e'.set k .un).set i .un = (e1.set k .un).set i .un := h4
    have h5 : (((e'.set k .un).set i .un).set k (gt e1 k)).set i (gt e1 i) = (((e1.set k .un).set i .un).set k (gt e1 k)).set i (gt e1 i) := by rw [h4]
    rw [set_four (Ne.symm hik), set_four (Ne.symm hik)] at h5
    rw [h5]
    have h6 : e1.set i (gt e1 i) = e1 := by
      have := set_back (e := e1) (i := i) (p := .un)
      rw [List.set_set] at this; exact this
    have h7 : e1.set k (gt e1 k) = e1 := by
      have := set_back (e := e1) (i := k) (p := .un)
      rw [List.set_set] at this; exact this
    rw [h7, h6]
  rw [hbk]
theorem bools_map {α : Type} (p : α → Bool) : ∀ xs : List α, bools (xs.map fun x => .bl (p x)) = some (xs.map p)
  | [] => rfl
  | x :: xs => by
    show (bools (xs.map fun x => D.bl (p x))).map (p x :: ·) = _
    rw [bools_map p xs]; rfl
theorem all_map {α : Type} (p : α → Bool) (xs : List α) : biD .all [.lst (xs.map fun x => .bl (p x))] = some (.bl (xs.all p)) := by
  show (bools (xs.map fun x => D.bl (p x))).map (fun bs => D.bl (bs.all id)) = _
  rw [bools_map]
  show some (D.bl ((xs.map p).all id)) = _
  rw [List.all_map]; rfl
theorem ints_map {α : Type} (f : α → Nat) : ∀ xs : List α, intsD (xs.map fun x => .int (Int.ofNat (f x))) = some (xs.map fun x => Int.ofNat (f x))
  | [] => rfl
  | x :: xs => by
    show (intsD (xs.map fun x => D.int (Int.ofNat (f x)))).map (Int.ofNat (f x) :: ·) = _
    rw [ints_map f xs]; rfl
end
end Mi
end
section
namespace Lk55
open PySem L2 Mi
def pairD (q : Str × Str) : Mi.D := .tup [.str q.1, .str q.2]
def meetF (x : Bf) (bs : List Bf) : List (Str × Str) := (bs.filter fun y => x.d.ltb y.d && meet x y).map fun y => (x.nm, y.nm)
def meetL (bs : List Bf) : List (Str × Str) := bs.flatMap fun x => meetF x bs
theorem lt_d (x y : Bf) : cmpD .Lt x.d y.d = some (x.d.ltb y.d) := rfl
theorem r359 (n : Nat) (bs : List Bf) (h : bs.length ≤ 6) : T.p.run (n + 2) 359 [.val (planD bs)] = .ok (.tup ((meetL bs).map pairD)) [.val (planD bs)] := by
  rw [run_fn (fn := f359) rfl rfl rfl]
  generalize hcc : T.p.cfg (T.p.run (n + 1)) f359 [.val (planD bs)] = cc
  show endF f359 (evSs cc b359 [.val (planD bs), .un, .un, .un]) = _
  have s1 : evS cc (.asg 1 (.attr (.v 0) 41)) [.val (planD bs), .un, .un, .un] = .nx [.val (planD bs), .val (hostD bs), .un, .un] := by
    rw [asg_of (d := hostD bs) (e1 := [.val (planD bs), .un, .un, .un]) (attr_prop (j := 354) (i := 357) (fs := [.dct (rows bs)]) (v_val rfl) (by subst hcc; rfl) (by subst hcc; rfl) (by subst hcc; exact r357 n bs h)) (by subst hcc; rfl)]
    subst hcc; rfl
  have c1 : ∀ x y : Bf, tsC (evEs cc (.cons false (.bool true (.cons false (.cmp (.v 2) .Lt (.v 3)) (.cons false (.call 351 (.cons false (.v 2) (.cons false (.v 3) .nil))) .nil))) .nil)) [.val (planD bs), .val (hostD bs), .val x.d, .val y.d] = .ok (x.d.ltb y.d && meet x y) [.val (planD bs), .val (hostD bs), .val x.d, .val y.d] := by
    intro x y
    have h1 : evE cc (.cmp (.v 2) .Lt (.v 3)) [.val (planD bs), .val (hostD bs), .val x.d, .val y.d] = .ok (.bl (x.d.ltb y.d)) [.val (planD bs), .val (hostD bs), .val x.d, .val y.d] := cmp_of (v_val rfl) (v_val rfl) (lt_d x y)
    have h2 : evE cc (.call 351 (.cons false (.v 2) (.cons false (.v 3) .nil))) [.val (planD bs), .val (hostD bs), .val x.d, .val y.d] = .ok (.bl (meet x y)) [.val (planD bs), .val (hostD bs), .val x.d, .val y.d] := by
      subst hcc
      exact call_val (ds := [y.d]) (e1 := [.val (planD bs), .val (hostD bs), .val x.d, .val y.d]) rfl (v_val rfl) (es_of (v_val rfl) es_end) (r351 n x y)
    rw [evs_cons, ts_cons]
    cases q : x.d.ltb y.d with
    | true =>
      rw [q] at h1
      rw [bool_go (a := true) h1 rfl rfl, bool_last, h2, ok_bind]
      show (lift (some (meet x y)) _).bind _ = _
      rw [lift_some, ok_bind]
      cases meet x y <;> rfl
    | false =>
      rw [q] at h1
      rw [bool_stop (a := true) h1 rfl (by simp), ok_bind]
      rfl
  have c2 : evE cc (.comp2 [2, 3] [3] (.tup (.cons false (.sub (.v 2) (.k (.int 0))) (.cons false (.sub (.v 3) (.k (.int 0))) .nil))) (.n 2) (.e (.v 1)) .nil (.n 3) (.e (.v 1)) (.cons false (.bool true (.cons false (.cmp (.v 2) .Lt (.v 3)) (.cons false (.call 351 (.cons false (.v 2) (.cons false (.v 3) .nil))) .nil))) .nil)) [.val (planD bs), .val (hostD bs), .un, .un] = .ok (.lst ((meetL bs).map pairD)) [.val (planD bs), .val (hostD bs), .un, .un] := by
    rw [ev_comp2]
    unfold xComp2
    have i1 : ∀ e, gt e 1 = .val (hostD bs) → evI cc (.e (.v 1)) e = .ok (bs.map Bf.d) e := by
      intro e he
      rw [ei_e, v_val he, ok_bind]; rfl
    rw [i1 _ rfl, ok_bind]
    rw [if_pos (by subst hcc; rfl)]
    rw [wipeE_eq]
    obtain ⟨acc, e', h1, ⟨r, l, h2, h3, h4⟩, h5⟩ := loopG_inv (α := List Mi.D) (tg := .n 2) (own := [2, 3]) (bd := fun acc e => (tsC (evEs cc .nil) e).bind fun b e => if b then (evI cc (.e (.v 1)) e).bind fun ys e =>
            loopG (α := List Mi.D) (.n 3) (fun acc e => (tsC (evEs cc (.cons false (.bool true (.cons false (.cmp (.v 2) .Lt (.v 3)) (.cons false (.call 351 (.cons false (.v 2) (.cons false (.v 3) .nil))) .nil))) .nil)) e).bind fun b e => if b then (evE cc (.tup (.cons false (.sub (.v 2) (.k (.int 0))) (.cons false (.sub (.v 3) (.k (.int 0))) .nil))) e).bind fun d e => if acc.length < sizeLine then .ok (d :: acc) e else .no else .ok acc e) [3] ys acc e
          else .ok acc e)
      (I := fun r acc e => (∃ r' l, bs = l ++ r' ∧ r = r'.map Bf.d ∧ acc = ((l.flatMap fun x => meetF x bs).map pairD).reverse) ∧ e = [.val (planD bs), .val (hostD bs), .un, .un])
      (bs.map Bf.d) [] [.val (planD bs), .val (hostD bs), .un, .un] ⟨⟨bs, [], rfl, rfl, rfl⟩, rfl⟩ (by
        rintro x r acc e ⟨⟨r', l, h2, h3, h4⟩, rfl⟩
        cases r' with
        | nil => cases h3
        | cons b r' =>
          simp only [List.map_cons, List.cons.injEq] at h3
          obtain ⟨rfl, rfl⟩ := h3
          have hl : l.length ≤ 6 := by rw [h2, List.length_append] at h; omega
          have hF : ∀ m : List Bf, m.length ≤ 6 → ∀ x, (meetF x m).length ≤ 6 := fun m hm x => by
            unfold meetF
            rw [List.length_map]
            exact Nat.le_trans (List.length_filter_le _ _) hm
          have hA : ∀ l : List Bf, ((l.flatMap fun x => meetF x bs).length) ≤ 6 * l.length := by
            intro l
            induction l with
            | nil => simp
            | cons x l ih =>
              rw [List.flatMap_cons, List.length_append, List.length_cons]
              have := hF bs h x
              omega
          obtain ⟨acc2, e2, k1, ⟨q, l2, k2, k3, k4⟩, k5⟩ := loopG_inv (α := List Mi.D) (tg := .n 3) (own := [3]) (bd := fun acc e => (tsC (evEs cc (.cons false (.bool true (.cons false (.cmp (.v 2) .Lt (.v 3)) (.cons false (.call 351 (.cons false (.v 2) (.cons false (.v 3) .nil))) .nil))) .nil)) e).bind fun b e => if b then (evE cc (.tup (.cons false (.sub (.v 2) (.k (.int 0))) (.cons false (.sub (.v 3) (.k (.int 0))) .nil))) e).bind fun d e => if acc.length < sizeLine then .ok (d :: acc) e else .no else .ok acc e)
            (I := fun r acc2 e => (∃ r' l2, bs = l2 ++ r' ∧ r = r'.map Bf.d ∧ acc2 = ((meetF b l2).map pairD).reverse ++ acc) ∧ e = [.val (planD bs), .val (hostD bs), .val b.d, .un])
            (bs.map Bf.d) acc [.val (planD bs), .val (hostD bs), .val b.d, .un] ⟨⟨bs, [], rfl, rfl, rfl⟩, rfl⟩ (by
              rintro x r acc2 e ⟨⟨r2, l2, g2, g3, g4⟩, rfl⟩
              cases r2 with
              | nil => cases g3
              | cons y r2 =>
                simp only [List.map_cons, List.cons.injEq] at g3
                obtain ⟨rfl, rfl⟩ := g3
                have hmF : meetF b (l2 ++ [y]) = meetF b l2 ++ (if b.d.ltb y.d && meet b y then [(b.nm, y.nm)] else []) := by
                  unfold meetF
                  rw [List.filter_append, List.map_append]
                  congr 1
                  by_cases hq : (b.d.ltb y.d && meet b y) = true
                  · simp [hq]
                  · simp [Bool.not_eq_true _ ▸ hq]
                cases hq : (b.d.ltb y.d && meet b y) with
                | true =>
                  refine ⟨[.val (planD bs), .val (hostD bs), .val b.d, .val y.d], pairD (b.nm, y.nm) :: acc2, [.val (planD bs), .val (hostD bs), .val b.d, .val y.d], rfl, ?_, ⟨r2, l2 ++ [y], by rw [g2]; simp, rfl, ?_⟩, rfl⟩
                  · rw [c1, hq, ok_bind, if_pos rfl]
                    have ht : evE cc (.tup (.cons false (.sub (.v 2) (.k (.int 0))) (.cons false (.sub (.v 3) (.k (.int 0))) .nil))) [.val (planD bs), .val (hostD bs), .val b.d, .val y.d] = .ok (pairD (b.nm, y.nm)) [.val (planD bs), .val (hostD bs), .val b.d, .val y.d] := by
                      rw [ev_tup, es_of (sub_of (d := .str b.nm) (v_val rfl) ev_k rfl) (es_of (sub_of (d := .str y.nm) (v_val rfl) ev_k rfl) es_end), ok_bind, if_pos (line_of (by simp))]
                      rfl
                    rw [ht, ok_bind]
                    have hlen : acc2.length < sizeLine := by
                      have a1 := hA l
                      have a2 : (meetF b l2).length ≤ 6 := hF l2 (by rw [g2, List.length_append] at h; omega) b
                      have a3 := line_of (k := 1000) (by decide)
                      rw [g4, h4, List.length_append, List.length_reverse, List.length_reverse, List.length_map, List.length_map]
                      omega
                    rw [if_pos hlen]
                  · rw [hmF, hq, g4]; simp
                | false =>
                  refine ⟨[.val (planD bs), .val (hostD bs), .val b.d, .val y.d], acc2, [.val (planD bs), .val (hostD bs), .val b.d, .val y.d], rfl, ?_, ⟨r2, l2 ++ [y], by rw [g2]; simp, rfl, ?_⟩, rfl⟩
                  · rw [c1, hq, ok_bind]; rfl
                  · rw [hmF, hq, g4]; simp)
          have hq0 : q = [] := by cases q with | nil => rfl | cons _ _ => cases k3
          subst hq0
          rw [List.append_nil] at k2
          subst k2
          refine ⟨[.val (planD bs), .val (hostD bs), .val b.d, .un], acc2, e2, rfl, ?_, ⟨r', l ++ [b], by rw [h2]; simp, rfl, ?_⟩, ?_⟩
          · rw [evs_nil, ts_nil, ok_bind, if_pos rfl, i1 _ rfl, ok_bind]
            exact k1
          · rw [k4, h4]; simp
          · show (e2.set 3 .un).set 2 .un = _
            have k5 : e2.set 3 .un = _ := k5
            rw [k5]; rfl)
    have hr0 : r = [] := by cases r with | nil => rfl | cons _ _ => cases h3
    subst hr0
    rw [List.append_nil] at h2
    subst h2
    have h1' := h1
    rw [show wipeL [P.val (planD bs), .val (hostD bs), .un, .un] [2, 3] = [P.val (planD bs), .val (hostD bs), .un, .un] from rfl]
    rw [h1]
    simp only [backE_eq]
    have hbk : backL [P.val (planD bs), .val (hostD bs), .un, .un] e' [2, 3] = [P.val (planD bs), .val (hostD bs), .un, .un] := by
      show (e'.set 3 .un).set 2 .un = _
      exact h5
    rw [hbk, h4, List.reverse_reverse]
    rfl
  have t1 : evS cc (.ret (.bi .tuple (.cons false (.comp2 [2, 3] [3] (.tup (.cons false (.sub (.v 2) (.k (.int 0))) (.cons false (.sub (.v 3) (.k (.int 0))) .nil))) (.n 2) (.e (.v 1)) .nil (.n 3) (.e (.v 1)) (.cons false (.bool true (.cons false (.cmp (.v 2) .Lt (.v 3)) (.cons false (.call 351 (.cons false (.v 2) (.cons false (.v 3) .nil))) .nil))) .nil)) .nil))) [.val (planD bs), .val (hostD bs), .un, .un] = .rt (.tup ((meetL bs).map pairD)) [.val (planD bs), .val (hostD bs), .un, .un] := ret_of (bi_of c2 rfl) (by subst hcc; rfl)
  unfold b359
  rw [s_step s1, s_rt t1]
  rfl
end Lk55
end
section
namespace Lk55
open PySem L2 Mi
def okSizes (bs : List Bf) : Mi.D → Bool
  | .tup xs => decide (xs.length = bs.length) && xs.all isCount
  | _ => false
theorem r292 (n : Nat) (bs : List Bf) (h : bs.length ≤ 6) (v : Mi.D) (hd : isDat v = true) (hx : ∀ xs, v = .tup xs → xs.length ≤ 100 ∧ ∀ x ∈ xs, isDat x = true) : T.p.run (n + 3) 292 [.val (planD bs), .val v] = .ok (.bl (okSizes bs v)) [.val (planD bs), .val v] := by
  rw [run_fn (fn := f292) rfl rfl rfl]
  generalize hcc : T.p.cfg (T.p.run (n + 2)) f292 [.val (planD bs), .val v] = cc
  show endF f292 (evSs cc b292 [.val (planD bs), .val v, .un]) = _
  unfold b292
  by_cases ht : ∃ xs, v = .tup xs
  · obtain ⟨xs, rfl⟩ := ht
    obtain ⟨hl, hx⟩ := hx xs rfl
    have h1 : evE cc (.isi (.v 1) [.tuple]) [.val (planD bs), .val (.tup xs), .un] = .ok (.bl true) [.val (planD bs), .val (.tup xs), .un] := rfl
    have h2 : evE cc (.cmp (.bi .len (.cons false (.v 1) .nil)) .Eq (.olen (.v 0))) [.val (planD bs), .val (.tup xs), .un] = .ok (.bl (decide (xs.length = bs.length))) [.val (planD bs), .val (.tup xs), .un] := by
      refine cmp_of (x := nD xs.length) (y := nD bs.length) (bi_of (v_val rfl) rfl) (olen_of (j := 354) (i := 361) (fs := [.dct (rows bs)]) (v_val rfl) (by subst hcc; rfl) (by subst hcc; exact r361 (n + 1) bs h) (by omega)) ?_
      show some (Int.ofNat xs.length == Int.ofNat bs.length) = _
      congr 1
      by_cases hq : xs.length = bs.length
      · simp [hq]
      · have : ¬ (Int.ofNat xs.length = Int.ofNat bs.length) := fun z => hq (Int.ofNat.inj z)
        rw [decide_eq_false hq]
        exact beq_false_of_ne this
    have h3 : evE cc (.bi .all (.cons false (.comp [2] (.call 343 (.cons false (.v 2) .nil)) (.n 2) (.e (.v 1)) .nil) .nil)) [.val (planD bs), .val (.tup xs), .un] = .ok (.bl (xs.all isCount)) [.val (planD bs), .val (.tup xs), .un] := by
      refine bi_of (comp_m (xs := xs) (g := fun x => .bl (isCount x)) (e1 := [.val (planD bs), .val (.tup xs), .un]) (fun k => by simp) (by rw [ei_e, v_val rfl, ok_bind]; rfl) (by subst hcc; rfl) (line_of (by omega)) ?_) (all_map _ _)
      intro x hxx
      subst hcc
      exact call_val (ds := []) (e1 := [.val (planD bs), .val (.tup xs), .val x]) rfl (v_val rfl) es_end (r343 n x (hx x hxx))
    show _ = R.ok (Mi.D.bl (decide (xs.length = bs.length) && xs.all isCount)) _
    cases hq : decide (xs.length = bs.length) with
    | true =>
      rw [hq] at h2
      rw [s_rt (ret_of ((bool_go (a := true) h1 rfl rfl).trans ((bool_go (a := true) h2 rfl rfl).trans (bool_last.trans h3))) (by subst hcc; rfl))]
      rfl
    | false =>
      rw [hq] at h2
      rw [s_rt (ret_of ((bool_go (a := true) h1 rfl rfl).trans (bool_stop (a := true) h2 rfl (by simp))) (by subst hcc; rfl))]
      rfl
  · have h1 : evE cc (.isi (.v 1) [.tuple]) [.val (planD bs), .val v, .un] = .ok (.bl false) [.val (planD bs), .val v, .un] := by
      cases v <;> first | (cases hd; done) | (exact absurd ⟨_, rfl⟩ ht) | rfl
    have h2 : okSizes bs v = false := by cases v <;> first | rfl | (exact absurd ⟨_, rfl⟩ ht)
    rw [h2, s_rt (ret_of (bool_stop (a := true) h1 rfl (by simp)) (by subst hcc; rfl))]
    rfl
theorem valL_ok (bs : List Bf) (f : Str → Nat) : okSizes bs (.tup (valL bs f)) = true := by
  unfold okSizes valL
  simp only [List.length_map, decide_true, Bool.true_and]
  rw [List.all_map]
  refine List.all_eq_true.mpr fun b _ => ?_
  show decide (0 ≤ Int.ofNat (f b.nm)) = true
  exact decide_eq_true (Int.natCast_nonneg _)
theorem valL_dat (bs : List Bf) (h : bs.length ≤ 6) (f : Str → Nat) : ∀ xs, Mi.D.tup (valL bs f) = .tup xs → xs.length ≤ 100 ∧ ∀ x ∈ xs, isDat x = true := by
  intro xs e
  cases e
  refine ⟨by unfold valL; rw [List.length_map]; omega, fun x hx => ?_⟩
  obtain ⟨b, _, rfl⟩ := List.mem_map.mp hx
  rfl
theorem add_nD (a b : Nat) : bopD .Add (nD a) (nD b) = some (nD (a + b)) := rfl
theorem le_nD (a b : Nat) : cmpD .LtE (nD a) (nD b) = some (decide (a ≤ b)) := by
  show some (decide (Int.ofNat a ≤ Int.ofNat b)) = _
  simp
theorem gt_nD (a b : Nat) : cmpD .Gt (nD a) (nD b) = some (decide (b < a)) := by
  show some (decide (Int.ofNat b < Int.ofNat a)) = _
  simp
theorem sub_val {bs : List Bf} (h : (bs.map (·.nm)).Nodup) (f : Str → Nat) {s : Str} (hs : s ∈ bs.map (·.nm)) : subD (.dct (valK bs f)) (.str s) = some (nD (f s)) := look_val h f hs
def pairT (t : Bool) (q : Str × Str) : Mi.D := seqT t [.str q.1, .str q.2]
theorem seq_items (t : Bool) (xs : List Mi.D) : (seqT t xs).items = some xs := by cases t <;> rfl
theorem r303 (n : Nat) (bs : List Bf) (h : Host bs) (sz sp : Str → Nat) (t t1 t2 : Bool) (ps : List (Str × Str)) (hp : ps.length ≤ 100) (hm : ∀ q ∈ ps, q.1 ∈ bs.map (·.nm) ∧ q.2 ∈ bs.map (·.nm)) :
    T.p.run (n + 3) 303 [.val (planD bs), .val (seqT t (ps.map (pairT t))), .val (seqT t1 (valL bs sz)), .val (seqT t2 (valL bs sp))] = .ok (.bl (ps.all fun q => decide (sp q.1 + sz q.1 ≤ sp q.2))) [.val (planD bs), .val (seqT t (ps.map (pairT t))), .val (seqT t1 (valL bs sz)), .val (seqT t2 (valL bs sp))] := by
  rw [run_fn (fn := f303) rfl rfl rfl]
  generalize hcc : T.p.cfg (T.p.run (n + 2)) f303 [.val (planD bs), .val (seqT t (ps.map (pairT t))), .val (seqT t1 (valL bs sz)), .val (seqT t2 (valL bs sp))] = cc
  show endF f303 (evSs cc b303 [.val (planD bs), .val (seqT t (ps.map (pairT t))), .val (seqT t1 (valL bs sz)), .val (seqT t2 (valL bs sp)), .un, .un, .un, .un]) = _
  have k1 : evE cc (.call 293 (.cons false (.v 0) (.cons false (.v 2) .nil))) [.val (planD bs), .val (seqT t (ps.map (pairT t))), .val (seqT t1 (valL bs sz)), .val (seqT t2 (valL bs sp)), .un, .un, .un, .un] = .ok (.dct (valK bs sz)) [.val (planD bs), .val (seqT t (ps.map (pairT t))), .val (seqT t1 (valL bs sz)), .val (seqT t2 (valL bs sp)), .un, .un, .un, .un] := by
    subst hcc
    exact call_val (ds := [seqT t1 (valL bs sz)]) (e1 := [.val (planD bs), .val (seqT t (ps.map (pairT t))), .val (seqT t1 (valL bs sz)), .val (seqT t2 (valL bs sp)), .un, .un, .un, .un]) rfl (v_val rfl) (es_of (v_val rfl) es_end) (r293 n bs h sz t1)
  have k2 : evE cc (.call 293 (.cons false (.v 0) (.cons false (.v 3) .nil))) [.val (planD bs), .val (seqT t (ps.map (pairT t))), .val (seqT t1 (valL bs sz)), .val (seqT t2 (valL bs sp)), .un, .un, .un, .un] = .ok (.dct (valK bs sp)) [.val (planD bs), .val (seqT t (ps.map (pairT t))), .val (seqT t1 (valL bs sz)), .val (seqT t2 (valL bs sp)), .un, .un, .un, .un] := by
    subst hcc
    exact call_val (ds := [seqT t2 (valL bs sp)]) (e1 := [.val (planD bs), .val (seqT t (ps.map (pairT t))), .val (seqT t1 (valL bs sz)), .val (seqT t2 (valL bs sp)), .un, .un, .un, .un]) rfl (v_val rfl) (es_of (v_val rfl) es_end) (r293 n bs h sp t2)
  have s1 : evS cc (.asgP [4, 5] (.cons false (.call 293 (.cons false (.v 0) (.cons false (.v 2) .nil))) (.cons false (.call 293 (.cons false (.v 0) (.cons false (.v 3) .nil))) .nil))) [.val (planD bs), .val (seqT t (ps.map (pairT t))), .val (seqT t1 (valL bs sz)), .val (seqT t2 (valL bs sp)), .un, .un, .un, .un] = .nx [.val (planD bs), .val (seqT t (ps.map (pairT t))), .val (seqT t1 (valL bs sz)), .val (seqT t2 (valL bs sp)), .val (.dct (valK bs sz)), .val (.dct (valK bs sp)), .un, .un] := by
    rw [asgP2 (es_of k1 (es_of k2 es_end)) (by subst hcc; rfl) (by subst hcc; rfl)]
    subst hcc; rfl
  have h1 : evE cc (.bi .all (.cons false (.comp [6, 7] (.cmp (.bop .Add (.sub (.v 5) (.v 6)) (.sub (.v 4) (.v 6))) .LtE (.sub (.v 5) (.v 7))) (.t [6, 7]) (.e (.v 1)) .nil) .nil)) [.val (planD bs), .val (seqT t (ps.map (pairT t))), .val (seqT t1 (valL bs sz)), .val (seqT t2 (valL bs sp)), .val (.dct (valK bs sz)), .val (.dct (valK bs sp)), .un, .un] = .ok (.bl (ps.all fun q => decide (sp q.1 + sz q.1 ≤ sp q.2))) [.val (planD bs), .val (seqT t (ps.map (pairT t))), .val (seqT t1 (valL bs sz)), .val (seqT t2 (valL bs sp)), .val (.dct (valK bs sz)), .val (.dct (valK bs sp)), .un, .un] := by
    have hc := comp_t (c := cc) (i := 6) (k := 7) (elt := .cmp (.bop .Add (.sub (.v 5) (.v 6)) (.sub (.v 4) (.v 6))) .LtE (.sub (.v 5) (.v 7))) (it := .e (.v 1)) (xs := ps.map (pairT t)) (e := [.val (planD bs), .val (seqT t (ps.map (pairT t))), .val (seqT t1 (valL bs sz)), .val (seqT t2 (valL bs sp)), .val (.dct (valK bs sz)), .val (.dct (valK bs sp)), .un, .un]) (e1 := [.val (planD bs), .val (seqT t (ps.map (pairT t))), .val (seqT t1 (valL bs sz)), .val (seqT t2 (valL bs sp)), .val (.dct (valK bs sz)), .val (.dct (valK bs sp)), .un, .un])
      (g := fun x => match x with | .tup [.str a, .str b] => .bl (decide (sp a + sz a ≤ sp b)) | .lst [.str a, .str b] => .bl (decide (sp a + sz a ≤ sp b)) | _ => .non) (by decide) (fun k => by simp) (by rw [ei_e, v_val rfl, ok_bind, seq_items]; rfl) (by subst hcc; rfl) (by subst hcc; rfl) (line_of (by rw [List.length_map]; omega)) (by
        intro x hx
        obtain ⟨q, hq, rfl⟩ := List.mem_map.mp hx
        obtain ⟨m1, m2⟩ := hm q hq
        refine ⟨.str q.1, .str q.2, by cases t; exact .inr rfl; exact .inl rfl, ?_⟩
        have e1 : ∀ e : En, gt e 4 = .val (.dct (valK bs sz)) → gt e 5 = .val (.dct (valK bs sp)) → gt e 6 = .val (.str q.1) → gt e 7 = .val (.str q.2) → evE cc (.cmp (.bop .Add (.sub (.v 5) (.v 6)) (.sub (.v 4) (.v 6))) .LtE (.sub (.v 5) (.v 7))) e = .ok (.bl (decide (sp q.1 + sz q.1 ≤ sp q.2))) e := fun e g4 g5 g6 g7 =>
          cmp_of (bop_of (sub_of (v_val g5) (v_val g6) (sub_val h.nodup sp m1)) (sub_of (v_val g4) (v_val g6) (sub_val h.nodup sz m1)) (add_nD _ _)) (sub_of (v_val g5) (v_val g7) (sub_val h.nodup sp m2)) (le_nD _ _)
        rw [e1 _ rfl rfl rfl rfl]
        cases t <;> rfl)
    refine bi_of hc ?_
    have e2 : (ps.map (pairT t)).map (fun x => match x with | .tup [.str a, .str b] => Mi.D.bl (decide (sp a + sz a ≤ sp b)) | .lst [.str a, .str b] => .bl (decide (sp a + sz a ≤ sp b)) | _ => .non) = ps.map fun q => .bl (decide (sp q.1 + sz q.1 ≤ sp q.2)) := by
      rw [List.map_map]
      refine List.map_congr_left fun q _ => ?_
      cases t <;> rfl
    rw [e2]
    exact all_map (fun q : Str × Str => decide (sp q.1 + sz q.1 ≤ sp q.2)) ps
  unfold b303
  rw [s_step s1, s_rt (ret_of h1 (by subst hcc; rfl))]
  rfl
end Lk55
end
section
namespace Lk55
open PySem L2 Mi
/-- a and b overlap -/
def bad (sz sp : Str → Nat) (a b : Str) : Bool := (decide (0 < sz a) && decide (0 < sz b)) && (decide (sp b < sp a + sz a) && decide (sp a < sp b + sz b))
theorem bool2 {c : Cfg} {e : En} {m m2 : M} {x y : Bool} (h1 : evE c m e = .ok (.bl x) e) (h2 : evE c m2 e = .ok (.bl y) e) : evE c (.bool true (.cons false m (.cons false m2 .nil))) e = .ok (.bl (x && y)) e := by
  cases x with
  | true => rw [bool_go (a := true) h1 rfl rfl, bool_last, h2]; rfl
  | false => rw [bool_stop (a := true) h1 rfl (by simp)]; rfl
theorem r302 (n : Nat) (bs : List Bf) (h : Host bs) (sz sp : Str → Nat) (t1 : Bool) :
    T.p.run (n + 4) 302 [.val (planD bs), .val (seqT t1 (valL bs sz)), .val (.tup (valL bs sp))] = .ok (.bl ((meetL bs).all fun q => !bad sz sp q.1 q.2)) [.val (planD bs), .val (seqT t1 (valL bs sz)), .val (.tup (valL bs sp))] := by
  rw [run_fn (fn := f302) rfl rfl rfl]
  generalize hcc : T.p.cfg (T.p.run (n + 3)) f302 [.val (planD bs), .val (seqT t1 (valL bs sz)), .val (.tup (valL bs sp))] = cc
  show endF f302 (evSs cc b302 [.val (planD bs), .val (seqT t1 (valL bs sz)), .val (.tup (valL bs sp)), .un, .un, .un, .un]) = _
  generalize hA : seqT t1 (valL bs sz) = A
  generalize hB : Mi.D.tup (valL bs sp) = B
  have hm : ∀ q ∈ meetL bs, q.1 ∈ bs.map (·.nm) ∧ q.2 ∈ bs.map (·.nm) := by
    intro q hq
    obtain ⟨x, hx, hq⟩ := List.mem_flatMap.mp hq
    obtain ⟨y, hy, rfl⟩ := List.mem_map.mp hq
    exact ⟨List.mem_map_of_mem hx, List.mem_map_of_mem (List.mem_filter.mp hy).1⟩
  have k0 : evE cc (.not (.call 292 (.cons false (.v 0) (.cons false (.v 2) .nil)))) [.val (planD bs), .val A, .val B, .un, .un, .un, .un] = .ok (.bl false) [.val (planD bs), .val A, .val B, .un, .un, .un, .un] := by
    refine not_of (t := true) (d := .bl true) ?_ rfl
    have this : T.p.run (n + 3) 292 [.val (planD bs), .val B] = .ok (.bl true) [.val (planD bs), .val B] := by
      have := r292 n bs h.few B (by rw [← hB]; rfl) (by rw [← hB]; exact valL_dat bs h.few sp)
      rw [this]
      subst hB
      rw [valL_ok]
    subst hcc
    exact call_val (ds := [B]) (e1 := [.val (planD bs), .val A, .val B, .un, .un, .un, .un]) rfl (v_val rfl) (es_of (v_val rfl) es_end) this
  have k1 : evE cc (.call 293 (.cons false (.v 0) (.cons false (.v 1) .nil))) [.val (planD bs), .val A, .val B, .un, .un, .un, .un] = .ok (.dct (valK bs sz)) [.val (planD bs), .val A, .val B, .un, .un, .un, .un] := by
    subst hcc hA
    exact call_val (ds := [seqT t1 (valL bs sz)]) (e1 := [.val (planD bs), .val (seqT t1 (valL bs sz)), .val B, .un, .un, .un, .un]) rfl (v_val rfl) (es_of (v_val rfl) es_end) (r293 (n + 1) bs h sz t1)
  have k2 : evE cc (.call 293 (.cons false (.v 0) (.cons false (.v 2) .nil))) [.val (planD bs), .val A, .val B, .un, .un, .un, .un] = .ok (.dct (valK bs sp)) [.val (planD bs), .val A, .val B, .un, .un, .un, .un] := by
    subst hcc hB
    exact call_val (ds := [seqT true (valL bs sp)]) (e1 := [.val (planD bs), .val A, .val (seqT true (valL bs sp)), .un, .un, .un, .un]) rfl (v_val rfl) (es_of (v_val rfl) es_end) (r293 (n + 1) bs h sp true)
  have s1 : evS cc (.asgP [3, 4] (.cons false (.call 293 (.cons false (.v 0) (.cons false (.v 1) .nil))) (.cons false (.call 293 (.cons false (.v 0) (.cons false (.v 2) .nil))) .nil))) [.val (planD bs), .val A, .val B, .un, .un, .un, .un] = .nx [.val (planD bs), .val A, .val B, .val (.dct (valK bs sz)), .val (.dct (valK bs sp)), .un, .un] := by
    rw [asgP2 (es_of k1 (es_of k2 es_end)) (by subst hcc; rfl) (by subst hcc; rfl)]
    subst hcc; rfl
  have i1 : evI cc (.e (.attr (.v 0) 42)) [.val (planD bs), .val A, .val B, .val (.dct (valK bs sz)), .val (.dct (valK bs sp)), .un, .un] = .ok ((meetL bs).map pairD) [.val (planD bs), .val A, .val B, .val (.dct (valK bs sz)), .val (.dct (valK bs sp)), .un, .un] := by
    rw [ei_e, attr_prop (j := 354) (i := 359) (fs := [.dct (rows bs)]) (d := .tup ((meetL bs).map pairD)) (e1 := [.val (planD bs), .val A, .val B, .val (.dct (valK bs sz)), .val (.dct (valK bs sp)), .un, .un]) (v_val rfl) (by subst hcc; rfl) (by subst hcc; rfl) (by subst hcc; exact r359 (n + 1) bs h.few), ok_bind]
    rfl
  obtain ⟨e4, ⟨x5, x6, rfl⟩, s2⟩ := for_any (c := cc) (tg := .t [5, 6]) (b := .cons (.ife (.bool true (.cons false (.cmp (.sub (.v 3) (.v 5)) .Gt (.k (.int 0))) (.cons false (.cmp (.sub (.v 3) (.v 6)) .Gt (.k (.int 0))) .nil))) (.cons (.ife (.bool true (.cons false (.cmp (.bop .Add (.sub (.v 4) (.v 5)) (.sub (.v 3) (.v 5))) .Gt (.sub (.v 4) (.v 6))) (.cons false (.cmp (.bop .Add (.sub (.v 4) (.v 6)) (.sub (.v 3) (.v 6))) .Gt (.sub (.v 4) (.v 5))) .nil))) (.cons (.ret (.k (.bl false))) .nil) .nil) .nil) .nil) .nil)
    (I := fun e => ∃ x5 x6, e = [.val (planD bs), .val A, .val B, .val (.dct (valK bs sz)), .val (.dct (valK bs sp)), x5, x6]) (d := .bl false)
    (p := fun x => match x with | .tup [.str a, .str b] => !bad sz sp a b | _ => true) i1 ⟨.un, .un, rfl⟩ (by
      rintro x hx e ⟨x5, x6, rfl⟩
      obtain ⟨q, hq, rfl⟩ := List.mem_map.mp hx
      obtain ⟨m1, m2⟩ := hm q hq
      refine ⟨[.val (planD bs), .val A, .val B, .val (.dct (valK bs sz)), .val (.dct (valK bs sp)), .val (.str q.1), .val (.str q.2)], by subst hcc; rfl, rfl, [.val (planD bs), .val A, .val B, .val (.dct (valK bs sz)), .val (.dct (valK bs sp)), .val (.str q.1), .val (.str q.2)], ⟨_, _, rfl⟩, ?_⟩
      generalize hE : ([.val (planD bs), .val A, .val B, .val (.dct (valK bs sz)), .val (.dct (valK bs sp)), .val (.str q.1), .val (.str q.2)] : En) = E
      have g3 : gt E 3 = .val (.dct (valK bs sz)) := by subst hE; rfl
      have g4 : gt E 4 = .val (.dct (valK bs sp)) := by subst hE; rfl
      have g5 : gt E 5 = .val (.str q.1) := by subst hE; rfl
      have g6 : gt E 6 = .val (.str q.2) := by subst hE; rfl
      have a5 := sub_of (c := cc) (v_val g3) (v_val g5) (sub_val h.nodup sz m1)
      have a6 := sub_of (c := cc) (v_val g3) (v_val g6) (sub_val h.nodup sz m2)
      have p5 := sub_of (c := cc) (v_val g4) (v_val g5) (sub_val h.nodup sp m1)
      have p6 := sub_of (c := cc) (v_val g4) (v_val g6) (sub_val h.nodup sp m2)
      have t1 := bool2 (cmp_of a5 (ev_k (c := cc) (e := E) (d := .int 0)) (gt_nD _ 0)) (cmp_of a6 (ev_k (c := cc) (e := E) (d := .int 0)) (gt_nD _ 0))
      have t2 := bool2 (cmp_of (bop_of p5 a5 (add_nD _ _)) p6 (gt_nD _ _)) (cmp_of (bop_of p6 a6 (add_nD _ _)) p5 (gt_nD _ _))
      have t3 : evS cc (.ret (.k (.bl false))) E = .rt (.bl false) E := ret_of ev_k (by subst hcc; rfl)
      show _ = if (!bad sz sp q.1 q.2) = true then _ else _
      unfold bad
      cases q1 : (decide (0 < sz q.1) && decide (0 < sz q.2)) with
      | false =>
        rw [q1] at t1
        rw [s_step (ife_f t1 rfl)]
        rfl
      | true =>
        rw [q1] at t1
        cases q2 : (decide (sp q.2 < sp q.1 + sz q.1) && decide (sp q.1 < sp q.2 + sz q.2)) with
        | false =>
          rw [q2] at t2
          rw [s_step ((ife_t t1 rfl).trans (s_step (ife_f t2 rfl)))]
          rfl
        | true =>
          rw [q2] at t2
          rw [s_rt ((ife_t t1 rfl).trans (s_rt ((ife_t t2 rfl).trans (s_rt t3))))]
          rfl)
  have hall : ((meetL bs).map pairD).all (fun x => match x with | .tup [.str a, .str b] => !bad sz sp a b | _ => true) = (meetL bs).all fun q => !bad sz sp q.1 q.2 := by
    rw [List.all_map]; rfl
  rw [hall] at s2
  unfold b302
  rw [s_step (ife_f k0 rfl), s_step s1]
  cases hq : (meetL bs).all fun q => !bad sz sp q.1 q.2 with
  | true =>
    rw [hq] at s2
    rw [s_step s2, s_rt (ret_of ev_k (by subst hcc; rfl))]
    rfl
  | false =>
    rw [hq] at s2
    rw [s_rt s2]
    rfl
/-- what is no placing -/
theorem r302no (n : Nat) (bs : List Bf) (h : bs.length ≤ 6) (A v : Mi.D) (hd : isDat v = true) (hx : ∀ xs, v = .tup xs → xs.length ≤ 100 ∧ ∀ x ∈ xs, isDat x = true) (hn : okSizes bs v = false) : T.p.run (n + 4) 302 [.val (planD bs), .val A, .val v] = .ok (.bl false) [.val (planD bs), .val A, .val v] := by
  rw [run_fn (fn := f302) rfl rfl rfl]
  generalize hcc : T.p.cfg (T.p.run (n + 3)) f302 [.val (planD bs), .val A, .val v] = cc
  show endF f302 (evSs cc b302 [.val (planD bs), .val A, .val v, .un, .un, .un, .un]) = _
  have k0 : evE cc (.not (.call 292 (.cons false (.v 0) (.cons false (.v 2) .nil)))) [.val (planD bs), .val A, .val v, .un, .un, .un, .un] = .ok (.bl true) [.val (planD bs), .val A, .val v, .un, .un, .un, .un] := by
    refine not_of (t := false) (d := .bl false) ?_ rfl
    have := r292 n bs h v hd hx
    rw [hn] at this
    subst hcc
    exact call_val (ds := [v]) (e1 := [.val (planD bs), .val A, .val v, .un, .un, .un, .un]) rfl (v_val rfl) (es_of (v_val rfl) es_end) this
  unfold b302
  rw [s_rt ((ife_t k0 rfl).trans (s_rt (ret_of ev_k (by subst hcc; rfl))))]
  rfl
end Lk55
end
section
namespace Lk55
open PySem L2 Mi
def hgtL (bs : List Bf) (sz sp : Str → Nat) : List Int := bs.map fun b => Int.ofNat (sp b.nm + sz b.nm)
def mx : List Int → Int | [] => 0 | n :: ns => maxI n ns
theorem maxI_mono {α : Type} (f g : α → Int) (h : ∀ x, f x ≤ g x) : ∀ (xs : List α) (a b : Int), a ≤ b → maxI a (xs.map f) ≤ maxI b (xs.map g)
  | [], a, b, hab => hab
  | x :: xs, a, b, hab => by
    simp only [List.map_cons]
    unfold maxI
    refine maxI_mono f g h xs _ _ ?_
    have := h x
    split <;> split <;> omega
theorem hgt_mono (sz en sp : Str → Nat) (h : ∀ s, en s ≤ sp s) (bs : List Bf) : mx (hgtL bs sz en) ≤ mx (hgtL bs sz sp) := by
  have h2 : ∀ b : Bf, Int.ofNat (en b.nm + sz b.nm) ≤ Int.ofNat (sp b.nm + sz b.nm) := fun b => by
    have := h b.nm
    exact Int.ofNat_le.mpr (by omega)
  unfold hgtL
  cases bs with
  | nil => exact Int.le_refl _
  | cons b bs => exact maxI_mono _ _ h2 bs _ _ (h2 b)
theorem zipD_map {α : Type} (f g : α → Mi.D) : ∀ xs : List α, zipD (xs.map f) (xs.map g) = xs.map fun x => .tup [f x, g x]
  | [] => rfl
  | x :: xs => by simp only [List.map_cons, zipD, zipD_map f g xs]
theorem r299 (n : Nat) (bs : List Bf) (hb : bs.length ≤ 6) (h0 : bs ≠ []) (sz sp : Str → Nat) (t1 t2 : Bool) : T.p.run (n + 1) 299 [.val (seqT t1 (valL bs sz)), .val (seqT t2 (valL bs sp))] = .ok (.int (mx (hgtL bs sz sp))) [.val (seqT t1 (valL bs sz)), .val (seqT t2 (valL bs sp))] := by
  rw [run_fn (fn := f299) rfl rfl rfl]
  generalize hcc : T.p.cfg (T.p.run n) f299 [.val (seqT t1 (valL bs sz)), .val (seqT t2 (valL bs sp))] = cc
  show endF f299 (evSs cc b299 [.val (seqT t1 (valL bs sz)), .val (seqT t2 (valL bs sp)), .un, .un]) = _
  have hc := comp_t (c := cc) (i := 2) (k := 3) (elt := .bop .Add (.v 2) (.v 3)) (it := .zip (.cons false (.v 1) (.cons false (.v 0) .nil))) (xs := bs.map fun b => .tup [nD (sp b.nm), nD (sz b.nm)]) (e := [.val (seqT t1 (valL bs sz)), .val (seqT t2 (valL bs sp)), .un, .un]) (e1 := [.val (seqT t1 (valL bs sz)), .val (seqT t2 (valL bs sp)), .un, .un])
    (g := fun x => match x with | .tup [.int a, .int b] => .int (a + b) | _ => .non) (by decide) (fun k => by simp) (by
      rw [ei_zip, es_of (v_val rfl) (es_of (v_val rfl) es_end), ok_bind]
      have : zipA [seqT t2 (valL bs sp), seqT t1 (valL bs sz)] = some (zipD (valL bs sp) (valL bs sz)) := by
        cases t1 <;> cases t2 <;> rfl
      rw [this]
      unfold valL
      rw [zipD_map]; rfl) (by subst hcc; rfl) (by subst hcc; rfl) (line_of (by rw [List.length_map]; omega)) (by
      intro x hx
      obtain ⟨b, hb, rfl⟩ := List.mem_map.mp hx
      exact ⟨nD (sp b.nm), nD (sz b.nm), .inl rfl, bop_of (v_val rfl) (v_val rfl) rfl⟩)
  have h1 : evE cc (.px .maxd (.cons false (.comp [2, 3] (.bop .Add (.v 2) (.v 3)) (.t [2, 3]) (.zip (.cons false (.v 1) (.cons false (.v 0) .nil))) .nil) (.cons false (.k (.int 0)) .nil))) [.val (seqT t1 (valL bs sz)), .val (seqT t2 (valL bs sp)), .un, .un] = .ok (.int (mx (hgtL bs sz sp))) [.val (seqT t1 (valL bs sz)), .val (seqT t2 (valL bs sp)), .un, .un] := by
    refine px_of (es_of hc (es_of ev_k es_end)) ?_
    have e1 : (bs.map fun b => Mi.D.tup [nD (sp b.nm), nD (sz b.nm)]).map (fun x => match x with | .tup [.int a, .int b] => Mi.D.int (a + b) | _ => .non) = bs.map fun b => .int (Int.ofNat (sp b.nm + sz b.nm)) := by
      rw [List.map_map]; rfl
    rw [e1]
    show (match intsD (bs.map fun b => Mi.D.int (Int.ofNat (sp b.nm + sz b.nm))) with | some (n :: ns) => some (Mi.D.int (maxI n ns)) | some [] => some (.int 0) | none => none) = _
    rw [ints_map (fun b : Bf => sp b.nm + sz b.nm)]
    unfold hgtL
    cases bs with
    | nil => exact absurd rfl h0
    | cons b bs => rfl
  unfold b299
  rw [s_rt (ret_of h1 (by subst hcc; rfl))]
  rfl
theorem put_val {bs : List Bf} (f : Str → Nat) {s : Str} (hs : s ∈ bs.map (·.nm)) (v : Nat) : putD (valK bs f) (.inr s) (nD v) = valK bs (fun x => if x = s then v else f x) := by
  unfold putD
  have : ((valK bs f).any fun kv => decide (kv.1 = (.inr s : Key))) = true := by
    obtain ⟨b, hb, rfl⟩ := List.mem_map.mp hs
    exact List.any_eq_true.mpr ⟨(.inr b.nm, nD (f b.nm)), List.mem_map_of_mem (f := fun b : Bf => ((.inr b.nm, nD (f b.nm)) : Key × Mi.D)) hb, decide_eq_true rfl⟩
  rw [if_pos this]
  unfold valK
  rw [List.map_map]
  refine List.map_congr_left fun b _ => ?_
  show (if (.inr b.nm : Key) = .inr s then _ else _) = ((.inr b.nm : Key), nD (if b.nm = s then v else f b.nm))
  by_cases hq : b.nm = s
  · rw [if_pos (by rw [hq]), if_pos hq]
  · rw [if_neg (fun z => hq (Sum.inr.inj z)), if_neg hq]
def orderD (ps : List (Str × Str)) : Mi.D := .tup (ps.map pairD)
theorem max_nD (a b : Nat) : biD .max2 [nD a, nD b] = some (nD (max a b)) := by
  show some (Mi.D.int (if Int.ofNat b > Int.ofNat a then Int.ofNat b else Int.ofNat a)) = some (Mi.D.int (Int.ofNat (max a b)))
  congr 2
  by_cases h : a < b
  · rw [if_pos (by simpa using h), Nat.max_eq_right (by omega)]
  · rw [if_neg (by simpa using h), Nat.max_eq_left (by omega)]
def Below (ps : List (Str × Str)) (sz en : Str → Nat) : Prop := ∀ sp : Str → Nat, (∀ q ∈ ps, sp q.1 + sz q.1 ≤ sp q.2) → ∀ s, en s ≤ sp s
theorem r297 (n : Nat) (bs : List Bf) (h : Host bs) (sz : Str → Nat) (M : Nat) (hM : ∀ s, sz s ≤ M) (ps : List (Str × Str)) (hp : ps.length ≤ 100) (hm : ∀ q ∈ ps, q.1 ∈ bs.map (·.nm) ∧ q.2 ∈ bs.map (·.nm)) :
    ∃ en ps', Below ps sz en ∧ (∀ s, en s ≤ M * (ps.length * bs.length)) ∧ T.p.run (n + 1) 297 [.val (orderD ps), .val (.dct (valK bs sz)), .val (.tup (nmL bs))] = .ok (.dct (valK bs en)) ps' := by
  rw [run_fn (fn := f297) rfl rfl rfl]
  generalize hcc : T.p.cfg (T.p.run n) f297 [.val (orderD ps), .val (.dct (valK bs sz)), .val (.tup (nmL bs))] = cc
  show ∃ en ps', _ ∧ _ ∧ endF f297 (evSs cc b297 [.val (orderD ps), .val (.dct (valK bs sz)), .val (.tup (nmL bs)), .un, .un, .un, .un, .un]) = _
  have s1 : evS cc (.asg 3 (.dcomp [5] (.v 5) (.k (.int 0)) (.n 5) (.e (.v 2)) .nil)) [.val (orderD ps), .val (.dct (valK bs sz)), .val (.tup (nmL bs)), .un, .un, .un, .un, .un] = .nx [.val (orderD ps), .val (.dct (valK bs sz)), .val (.tup (nmL bs)), .md (valK bs fun _ => 0), .un, .un, .un, .un] := by
    rw [asg_of (d := .dct (valK bs fun _ => 0)) (e1 := [.val (orderD ps), .val (.dct (valK bs sz)), .val (.tup (nmL bs)), .un, .un, .un, .un, .un]) ?_ (by subst hcc; rfl)]
    · subst hcc; rfl
    · rw [dcomp_m (xs := nmL bs) (e1 := [.val (orderD ps), .val (.dct (valK bs sz)), .val (.tup (nmL bs)), .un, .un, .un, .un, .un]) (kf := fun x => match x with | .str s => .inr s | _ => .inl 0) (g := fun x => nD 0) (by rw [ei_e, v_val rfl, ok_bind]; rfl) (by subst hcc; rfl) (by unfold nmL; rw [List.length_map]; have := line_of (k := 7) (by decide); have := h.few; omega) ?_ ?_]
      · have e1 : (nmL bs).map (fun x => ((match x with | .str s => .inr s | _ => .inl 0 : Key), nD 0)) = valK bs fun _ => 0 := by
          unfold nmL valK
          rw [List.map_map]; rfl
        rw [e1, putAll_new _ [] (by rw [List.nil_append, valK_keys]; exact rows_nodup h.nodup)]
        rfl
      · intro x hx
        obtain ⟨b, _, rfl⟩ := List.mem_map.mp hx
        exact ⟨.str b.nm, v_val rfl, rfl⟩
      · intro x hx
        exact ev_k
  have i1 : ∀ e : En, gt e 2 = .val (.tup (nmL bs)) → evI cc (.e (.v 2)) e = .ok (nmL bs) e := fun e he => by rw [ei_e, v_val he, ok_bind]; rfl
  have i2 : ∀ e : En, gt e 0 = .val (orderD ps) → evI cc (.e (.v 0)) e = .ok (ps.map pairD) e := fun e he => by rw [ei_e, v_val he, ok_bind]; rfl
  obtain ⟨e4, s2, en, x4, x6, x7, m, hB, hE, hm2, rfl⟩ := for_inv (c := cc) (tg := .n 4) (b := .cons (.for (.t [6, 7]) (.e (.v 0)) (.cons (.setI 3 (.v 7) (.bi .max2 (.cons false (.bsub 3 (.v 7)) (.cons false (.bop .Add (.bsub 3 (.v 6)) (.sub (.v 1) (.v 6))) .nil)))) .nil)) .nil) (e := [.val (orderD ps), .val (.dct (valK bs sz)), .val (.tup (nmL bs)), .md (valK bs fun _ => 0), .un, .un, .un, .un])
    (I := fun r e => ∃ en x4 x6 x7 m, Below ps sz en ∧ (∀ s, en s ≤ M * m) ∧ m + ps.length * r.length = ps.length * bs.length ∧ e = [.val (orderD ps), .val (.dct (valK bs sz)), .val (.tup (nmL bs)), .md (valK bs en), x4, .un, x6, x7]) (i1 _ rfl) ⟨fun _ => 0, .un, .un, .un, 0, fun sp _ s => Nat.zero_le _, fun s => Nat.zero_le _, by unfold nmL; rw [List.length_map, Nat.zero_add], rfl⟩ (by
      rintro x r e ⟨en, x4, x6, x7, m, hB, hE, hm2, rfl⟩
      refine ⟨[.val (orderD ps), .val (.dct (valK bs sz)), .val (.tup (nmL bs)), .md (valK bs en), .val x, .un, x6, x7], by subst hcc; rfl, rfl, ?_⟩
      obtain ⟨e5, s3, r2, en2, y6, y7, m2, hr, hB2, hE2, hm3, rfl⟩ := for_inv (c := cc) (tg := .t [6, 7]) (b := .cons (.setI 3 (.v 7) (.bi .max2 (.cons false (.bsub 3 (.v 7)) (.cons false (.bop .Add (.bsub 3 (.v 6)) (.sub (.v 1) (.v 6))) .nil)))) .nil) (e := [.val (orderD ps), .val (.dct (valK bs sz)), .val (.tup (nmL bs)), .md (valK bs en), .val x, .un, x6, x7])
        (I := fun r e => ∃ r2 en2 y6 y7 m2, (r = r2.map pairD ∧ ∀ q ∈ r2, q ∈ ps) ∧ Below ps sz en2 ∧ (∀ s, en2 s ≤ M * m2) ∧ m2 + r2.length = m + ps.length ∧ e = [.val (orderD ps), .val (.dct (valK bs sz)), .val (.tup (nmL bs)), .md (valK bs en2), .val x, .un, y6, y7]) (i2 _ rfl) ⟨ps, en, x6, x7, m, ⟨rfl, fun q hq => hq⟩, hB, hE, rfl, rfl⟩ (by
          rintro z r e ⟨r2, en2, y6, y7, mm, ⟨hr, hr2⟩, hB2, hE2, hm3, rfl⟩
          cases r2 with
          | nil => cases hr
          | cons q r2 =>
            simp only [List.map_cons, List.cons.injEq] at hr
            obtain ⟨rfl, rfl⟩ := hr
            have hq := hr2 q List.mem_cons_self
            obtain ⟨m1, m2⟩ := hm q hq
            refine ⟨[.val (orderD ps), .val (.dct (valK bs sz)), .val (.tup (nmL bs)), .md (valK bs en2), .val x, .un, .val (.str q.1), .val (.str q.2)], by subst hcc; rfl, rfl, [.val (orderD ps), .val (.dct (valK bs sz)), .val (.tup (nmL bs)), .md (valK bs (fun s => if s = q.2 then max (en2 q.2) (en2 q.1 + sz q.1) else en2 s)), .val x, .un, .val (.str q.1), .val (.str q.2)], ?_, r2, _, _, _, mm + 1, ⟨rfl, fun p hp => hr2 p (List.mem_cons_of_mem _ hp)⟩, ?_, ?_, by rw [← hm3, List.length_cons]; omega, rfl⟩
            · have v1 : evE cc (.bi .max2 (.cons false (.bsub 3 (.v 7)) (.cons false (.bop .Add (.bsub 3 (.v 6)) (.sub (.v 1) (.v 6))) .nil))) [.val (orderD ps), .val (.dct (valK bs sz)), .val (.tup (nmL bs)), .md (valK bs en2), .val x, .un, .val (.str q.1), .val (.str q.2)] = .ok (nD (max (en2 q.2) (en2 q.1 + sz q.1))) [.val (orderD ps), .val (.dct (valK bs sz)), .val (.tup (nmL bs)), .md (valK bs en2), .val x, .un, .val (.str q.1), .val (.str q.2)] := by
                have u1 : evE cc (.bsub 3 (.v 7)) [.val (orderD ps), .val (.dct (valK bs sz)), .val (.tup (nmL bs)), .md (valK bs en2), .val x, .un, .val (.str q.1), .val (.str q.2)] = .ok (nD (en2 q.2)) [.val (orderD ps), .val (.dct (valK bs sz)), .val (.tup (nmL bs)), .md (valK bs en2), .val x, .un, .val (.str q.1), .val (.str q.2)] :=
                  bsub_of (x0 := .dct (valK bs en2)) (x := .dct (valK bs en2)) (y := .str q.2) rfl (v_val rfl) rfl (sub_val h.nodup en2 m2)
                have u2 : evE cc (.bsub 3 (.v 6)) [.val (orderD ps), .val (.dct (valK bs sz)), .val (.tup (nmL bs)), .md (valK bs en2), .val x, .un, .val (.str q.1), .val (.str q.2)] = .ok (nD (en2 q.1)) [.val (orderD ps), .val (.dct (valK bs sz)), .val (.tup (nmL bs)), .md (valK bs en2), .val x, .un, .val (.str q.1), .val (.str q.2)] :=
                  bsub_of (x0 := .dct (valK bs en2)) (x := .dct (valK bs en2)) (y := .str q.1) rfl (v_val rfl) rfl (sub_val h.nodup en2 m1)
                rw [ev_bi, es_of u1 (es_of (bop_of u2 (sub_of (v_val rfl) (v_val rfl) (sub_val h.nodup sz m1)) (add_nD _ _)) es_end), ok_bind, max_nD]
                rfl
              rw [s_step (setI_md (k := .inr q.2) v1 rfl (v_val rfl) rfl rfl (by unfold valK; rw [List.length_map]; have := line_of (k := 7) (by decide); have := h.few; omega)), put_val en2 m2]
              rfl
            · intro sp hsp s
              show (if s = q.2 then max (en2 q.2) (en2 q.1 + sz q.1) else en2 s) ≤ sp s
              have b1 := hB2 sp hsp
              split
              · rename_i hs
                subst hs
                have := b1 q.1
                have := b1 q.2
                have := hsp q hq
                exact Nat.max_le.mpr ⟨by omega, by omega⟩
              · exact b1 s
            · intro s
              show (if s = q.2 then max (en2 q.2) (en2 q.1 + sz q.1) else en2 s) ≤ M * (mm + 1)
              rw [Nat.mul_succ]
              have b1 := hE2 q.1
              have b2 := hE2 q.2
              have b3 := hM q.1
              have b4 := hE2 s
              split
              · exact Nat.max_le.mpr ⟨by omega, by omega⟩
              · omega)
      have hr0 : r2 = [] := by cases r2 with | nil => rfl | cons _ _ => cases hr.1
      subst hr0
      exact ⟨_, by rw [s_step s3]; rfl, en2, _, _, _, m2, hB2, hE2, by rw [← hm2, List.length_cons, Nat.mul_succ]; simp at hm3; omega, rfl⟩)
  refine ⟨en, [.val (orderD ps), .val (.dct (valK bs sz)), .val (.tup (nmL bs))], hB, fun s => by rw [← hm2]; simpa using hE s, ?_⟩
  unfold b297
  rw [s_step s1, s_step s2, s_rt (ret_of (v_md rfl (by subst hcc; rfl)) (by subst hcc; rfl))]
  rfl
theorem r347p (n : Nat) (q : Str × Str) : T.p.run (n + 2) 347 [.val (pairD q)] = .ok (pairD q) [.val (pairD q)] := by kernel_rfl
theorem r347o (n : Nat) (ps : List (Str × Str)) (h : ps.length ≤ 1000) : T.p.run (n + 3) 347 [.val (orderD ps)] = .ok (orderD ps) [.val (orderD ps)] := by
  rw [run_fn (fn := f347) rfl rfl rfl]
  generalize hcc : T.p.cfg (T.p.run (n + 2)) f347 [.val (orderD ps)] = cc
  show endF f347 (evSs cc b347 [.val (orderD ps), .un]) = _
  have hc := comp_m (c := cc) (i := 1) (elt := .call 347 (.cons false (.v 1) .nil)) (it := .e (.v 0)) (xs := ps.map pairD) (g := id) (e := [.val (orderD ps), .un]) (e1 := [.val (orderD ps), .un]) (fun k => by simp) (by subst hcc; rfl) (by subst hcc; rfl) (line_of (by rw [List.length_map]; omega)) (by
    intro x hx
    obtain ⟨b, hb, rfl⟩ := List.mem_map.mp hx
    subst hcc
    exact call_val (d := pairD b) (ds := []) (e1 := [.val (orderD ps), .val (pairD b)]) (e2 := [.val (orderD ps), .val (pairD b)]) rfl (v_val rfl) es_end (r347p n b))
  have hr := ite_t (c := cc) (t := .isi (.v 0) [.list, .tuple]) (b := .v 0) (a := .bi .tuple (.cons false (.comp [1] (.call 347 (.cons false (.v 1) .nil)) (.n 1) (.e (.v 0)) .nil) .nil)) (e := [.val (orderD ps), .un]) (e1 := [.val (orderD ps), .un]) (d := .bl true) rfl rfl
  rw [bi_of (x := .lst (ps.map pairD)) (d := orderD ps) (by rw [List.map_id] at hc; exact hc) rfl] at hr
  unfold b347
  rw [s_rt (ret_of hr (by subst hcc; rfl))]
  rfl
theorem r298 (n : Nat) (bs : List Bf) (h : Host bs) (sz : Str → Nat) (M : Nat) (hM : ∀ s, sz s ≤ M) (ps : List (Str × Str)) (hp : ps.length ≤ 100) (hm : ∀ q ∈ ps, q.1 ∈ bs.map (·.nm) ∧ q.2 ∈ bs.map (·.nm)) :
    ∃ en, Below ps sz en ∧ (∀ s, en s ≤ M * (ps.length * bs.length)) ∧ T.p.run (n + 4) 298 [.val (planD bs), .val (orderD ps), .val (.tup (valL bs sz))] = .ok (.tup (valL bs en)) [.val (planD bs), .val (orderD ps), .val (.tup (valL bs sz))] := by
  rw [run_fn (fn := f298) rfl rfl rfl]
  generalize hcc : T.p.cfg (T.p.run (n + 3)) f298 [.val (planD bs), .val (orderD ps), .val (.tup (valL bs sz))] = cc
  show ∃ en, _ ∧ _ ∧ endF f298 (evSs cc b298 [.val (planD bs), .val (orderD ps), .val (.tup (valL bs sz))]) = _
  generalize hA : Mi.D.tup (valL bs sz) = A
  obtain ⟨en, ps', hB, hE, hr⟩ := r297 (n + 2) bs h sz M hM ps hp hm
  refine ⟨en, hB, hE, ?_⟩
  have k1 : evE cc (.call 347 (.cons false (.v 1) .nil)) [.val (planD bs), .val (orderD ps), .val A] = .ok (orderD ps) [.val (planD bs), .val (orderD ps), .val A] := by
    subst hcc
    exact call_val (ds := []) (e1 := [.val (planD bs), .val (orderD ps), .val A]) rfl (v_val rfl) es_end (r347o n ps (by omega))
  have k2 : evE cc (.call 293 (.cons false (.v 0) (.cons false (.v 2) .nil))) [.val (planD bs), .val (orderD ps), .val A] = .ok (.dct (valK bs sz)) [.val (planD bs), .val (orderD ps), .val A] := by
    subst hcc hA
    exact call_val (ds := [seqT true (valL bs sz)]) (e1 := [.val (planD bs), .val (orderD ps), .val (seqT true (valL bs sz))]) rfl (v_val rfl) (es_of (v_val rfl) es_end) (r293 (n + 1) bs h sz true)
  have k3 : evE cc (.attr (.v 0) 3) [.val (planD bs), .val (orderD ps), .val A] = .ok (.tup (nmL bs)) [.val (planD bs), .val (orderD ps), .val A] :=
    attr_prop (j := 354) (i := 358) (fs := [.dct (rows bs)]) (v_val rfl) (by subst hcc; rfl) (by subst hcc; rfl) (by subst hcc; exact r358 (n + 2) bs h.few)
  have k4 : evE cc (.call 297 (.cons false (.call 347 (.cons false (.v 1) .nil)) (.cons false (.call 293 (.cons false (.v 0) (.cons false (.v 2) .nil))) (.cons false (.attr (.v 0) 3) .nil)))) [.val (planD bs), .val (orderD ps), .val A] = .ok (.dct (valK bs en)) [.val (planD bs), .val (orderD ps), .val A] := by
    refine call_val (ds := [.dct (valK bs sz), .tup (nmL bs)]) (e1 := [.val (planD bs), .val (orderD ps), .val A]) (by subst hcc; rfl) k1 (es_of k2 (es_of k3 es_end)) (ps' := ps') ?_
    subst hcc
    exact hr
  have h1 := px_of (c := cc) (o := .tvals) (d := .tup (valL bs en)) (es_of k4 es_end) (by
    show (if (valK bs en).length ≤ 1000 then some (Mi.D.tup ((valK bs en).map (·.2))) else none) = _
    rw [if_pos (by unfold valK; rw [List.length_map]; have := h.few; omega)]
    unfold valK valL
    rw [List.map_map]; rfl)
  unfold b298
  rw [s_rt (ret_of h1 (by subst hcc; rfl))]
  rfl
theorem r300 (n : Nat) (bs : List Bf) (h : Host bs) (h0 : bs ≠ []) (sz : Str → Nat) (M : Nat) (hM : ∀ s, sz s ≤ M) (ps : List (Str × Str)) (hp : ps.length ≤ 100) (hm : ∀ q ∈ ps, q.1 ∈ bs.map (·.nm) ∧ q.2 ∈ bs.map (·.nm)) :
    ∃ en, Below ps sz en ∧ T.p.run (n + 5) 300 [.val (planD bs), .val (orderD ps), .val (.tup (valL bs sz))] = .ok (.int (mx (hgtL bs sz en))) [.val (planD bs), .val (orderD ps), .val (.tup (valL bs sz))] := by
  rw [run_fn (fn := f300) rfl rfl rfl]
  generalize hcc : T.p.cfg (T.p.run (n + 4)) f300 [.val (planD bs), .val (orderD ps), .val (.tup (valL bs sz))] = cc
  show ∃ en, _ ∧ endF f300 (evSs cc b300 [.val (planD bs), .val (orderD ps), .val (.tup (valL bs sz))]) = _
  obtain ⟨en, hB, _, hr⟩ := r298 n bs h sz M hM ps hp hm
  refine ⟨en, hB, ?_⟩
  have k1 : evE cc (.call 298 (.cons false (.v 0) (.cons false (.v 1) (.cons false (.v 2) .nil)))) [.val (planD bs), .val (orderD ps), .val (.tup (valL bs sz))] = .ok (.tup (valL bs en)) [.val (planD bs), .val (orderD ps), .val (.tup (valL bs sz))] := by
    subst hcc
    exact call_val (ds := [orderD ps, .tup (valL bs sz)]) (e1 := [.val (planD bs), .val (orderD ps), .val (.tup (valL bs sz))]) rfl (v_val rfl) (es_of (v_val rfl) (es_of (v_val rfl) es_end)) hr
  have k2 : evE cc (.call 299 (.cons false (.v 2) (.cons false (.call 298 (.cons false (.v 0) (.cons false (.v 1) (.cons false (.v 2) .nil)))) .nil))) [.val (planD bs), .val (orderD ps), .val (.tup (valL bs sz))] = .ok (.int (mx (hgtL bs sz en))) [.val (planD bs), .val (orderD ps), .val (.tup (valL bs sz))] := by
    refine call_val (ds := [.tup (valL bs en)]) (e1 := [.val (planD bs), .val (orderD ps), .val (.tup (valL bs sz))]) (ps' := [.val (.tup (valL bs sz)), .val (.tup (valL bs en))]) (by subst hcc; rfl) (v_val rfl) (es_of k1 es_end) ?_
    subst hcc
    exact r299 (n + 3) bs h.few h0 sz en true true
  unfold b300
  rw [s_rt (ret_of k2 (by subst hcc; rfl))]
  rfl
end Lk55
end
section
namespace Lk55
open PySem L2 Mi
theorem ins_q (x : Str × Str) : ∀ ys : List (Str × Str), ∃ zs : List (Str × Str), ins (pairD x) (ys.map pairD) = zs.map pairD ∧ zs.Perm (x :: ys)
  | [] => ⟨[x], rfl, List.Perm.refl _⟩
  | y :: ys => by
    obtain ⟨zs, h1, h2⟩ := ins_q x ys
    by_cases h : (pairD x).ltb (pairD y) = true
    · exact ⟨x :: y :: ys, by show (if (pairD x).ltb (pairD y) = true then _ else _) = _; rw [if_pos h]; rfl, List.Perm.refl _⟩
    · exact ⟨y :: zs, by show (if (pairD x).ltb (pairD y) = true then _ else _) = _; rw [if_neg h, h1]; rfl, (h2.cons y).trans (List.Perm.swap x y ys)⟩
theorem isort_q : ∀ xs acc : List (Str × Str), ∃ zs : List (Str × Str), isort (acc.map pairD) (xs.map pairD) = zs.map pairD ∧ zs.Perm (acc ++ xs)
  | [], acc => ⟨acc, rfl, by simp⟩
  | x :: xs, acc => by
    obtain ⟨zs, h1, h2⟩ := ins_q x acc
    obtain ⟨ws, h3, h4⟩ := isort_q xs zs
    refine ⟨ws, by show isort (ins (pairD x) (acc.map pairD)) (xs.map pairD) = _; rw [h1, h3], h4.trans ?_⟩
    exact (h2.append_right xs).trans (by simpa using (List.perm_middle (a := x) (l₁ := acc) (l₂ := xs)).symm)
theorem sort_q (qs : List (Str × Str)) : ∃ zs : List (Str × Str), sortD (qs.map pairD) = some (zs.map pairD) ∧ zs.Perm qs := by
  obtain ⟨zs, h1, h2⟩ := isort_q qs []
  refine ⟨zs, ?_, by simpa using h2⟩
  have a1 : (qs.map pairD).all (·.fit deep) = true := by
    rw [List.all_map]
    exact List.all_eq_true.mpr fun b _ => rfl
  have a2 : allAlk (qs.map pairD) = true := by
    unfold allAlk
    rw [List.all_map]
    refine List.all_eq_true.mpr fun b _ => ?_
    show (qs.map pairD).all _ = true
    rw [List.all_map]
    exact List.all_eq_true.mpr fun b2 _ => rfl
  have a3 : sortable (qs.map pairD) = true := by
    unfold sortable
    rw [Bool.or_eq_true]
    left
    rw [List.all_map]
    exact List.all_eq_true.mpr fun b _ => rfl
  unfold sortD
  rw [a1, a2, a3]
  exact congrArg some h1
theorem meet_symm (a b : Bf) : meet a b = meet b a := by unfold meet; rw [Bool.and_comm]
structure Ord (bs : List Bf) (ps : List (Str × Str)) : Prop where
  mem : ∀ q ∈ ps, ∃ a ∈ bs, ∃ b ∈ bs, q = (a.nm, b.nm) ∧ meet a b = true ∧ a.nm ≠ b.nm
  all : ∀ a ∈ bs, ∀ b ∈ bs, a.nm ≠ b.nm → meet a b = true → (a.nm, b.nm) ∈ ps ∨ (b.nm, a.nm) ∈ ps
  few : ps.length ≤ 36
theorem pw_all {α : Type} {R : α → α → Prop} : ∀ {l : List α}, l.Pairwise R → ∀ a ∈ l, ∀ b ∈ l, a ≠ b → R a b ∨ R b a
  | [], _, a, ha, _, _, _ => by cases ha
  | x :: l, h, a, ha, b, hb, hn => by
    rw [List.pairwise_cons] at h
    rcases List.mem_cons.mp ha with e | e
    · rcases List.mem_cons.mp hb with e2 | e2
      · exact absurd (e.trans e2.symm) hn
      · exact .inl (e ▸ h.1 b e2)
    · rcases List.mem_cons.mp hb with e2 | e2
      · exact .inr (e2 ▸ h.1 a e)
      · exact pw_all h.2 a e b e2 hn
theorem cut_take (xs : List Mi.D) (k : Nat) (h : k ≤ xs.length) : cutD xs none (some (Int.ofNat k)) = xs.take k := by
  unfold cutD HT.sIx
  simp
  rw [if_neg (by omega)]
  omega
theorem erase_map {α β : Type} (f : α → β) : ∀ (l : List α) (i : Nat), (l.eraseIdx i).map f = (l.map f).eraseIdx i
  | [], _ => rfl
  | _ :: _, 0 => rfl
  | x :: l, i + 1 => by
    simp only [List.map_cons, List.eraseIdx_cons_succ, erase_map f l i]
/-- the pairs that x adds -/
def addQ (l : List Bf) (x : Bf) : List (Str × Str) := (l.filter fun y => meet y x).map fun y => (y.nm, x.nm)
def bfOf : Mi.D → Option Bf | .tup [.str a, .int (.ofNat lo), .int (.ofNat hi)] => some ⟨a, lo, hi⟩ | _ => none
theorem bfOf_d (b : Bf) : bfOf b.d = some b := rfl
theorem law_order {N : Int} {p : List Mi.D} (h : Bx N p) (hN : N < 2 ^ 50) (bs : List Bf) (hh : Host bs) (n : Nat) : ∃ ps p', Ord bs ps ∧ Bx (N + 6) p' ∧ T.p.run (n + 2) 1002 [.ml p, .val (hostD bs)] = .ok (orderD ps) [.ml p', .val (hostD bs)] := by
  rw [run_fn (fn := f1002) rfl rfl rfl]
  generalize hcc : T.p.cfg (T.p.run (n + 1)) f1002 [.ml p, .val (hostD bs)] = cc
  show ∃ ps p', _ ∧ _ ∧ endF f1002 (evSs cc b1002 [.ml p, .val (hostD bs), .un, .un, .un, .un, .un, .un]) = _
  have hfew := hh.few
  have s1 : evS cc (.asgP [2, 3, 4] (.cons false (.bi .list (.cons false (.v 1) .nil)) (.cons false (.lst .nil) (.cons false (.lst .nil) .nil)))) [.ml p, .val (hostD bs), .un, .un, .un, .un, .un, .un] = .nx [.ml p, .val (hostD bs), .ml (bs.map Bf.d), .ml [], .val (.lst []), .un, .un, .un] := by
    rw [asgP3 (d1 := .lst (bs.map Bf.d)) (d2 := .lst []) (d3 := .lst []) (e1 := [.ml p, .val (hostD bs), .un, .un, .un, .un, .un, .un]) (es_of (bi_of (v_val rfl) rfl) (es_of rfl (es_of rfl es_end))) (by subst hcc; rfl) (by subst hcc; rfl) (by subst hcc; rfl)]
    subst hcc; rfl
  have s2 : ∃ e', evS cc (.whl (.bcmp 2 .NotEq (.lst .nil)) (.cons (.app 3 (.pop 2 (.cons false (.call 11 (.cons false (.v 0) (.cons false (.blen 2) .nil))) .nil))) .nil)) [.ml p, .val (hostD bs), .ml (bs.map Bf.d), .ml [], .val (.lst []), .un, .un, .un] = .nx e' ∧ ∃ (l : List Bf) (p' : List Mi.D), l.Perm bs ∧ Bx (N + 6) p' ∧ e' = [.ml p', .val (hostD bs), .ml [], .ml (l.map Bf.d), .val (.lst []), .un, .un, .un] := by
    rw [s_whl]
    refine whl_inv (I := fun m e => ∃ (l g : List Bf) (p' : List Mi.D), (g ++ l).Perm bs ∧ l.length = m ∧ Bx (N + g.length) p' ∧ e = [.ml p', .val (hostD bs), .ml (l.map Bf.d), .ml (g.map Bf.d), .val (.lst []), .un, .un, .un]) (J := fun e' => ∃ (l : List Bf) (p' : List Mi.D), l.Perm bs ∧ Bx (N + 6) p' ∧ e' = [.ml p', .val (hostD bs), .ml [], .ml (l.map Bf.d), .val (.lst []), .un, .un, .un]) bs.length cc.turns _ ⟨bs, [], p, List.Perm.refl _, rfl, h.mono (by simp), rfl⟩ (by
      have : cc.turns = 10000 := by subst hcc; rfl
      omega) ?_
    rintro m e ⟨l, g, p1, hp, hl, hb, rfl⟩
    have hlen := hp.length_eq
    rw [List.length_append] at hlen
    refine ⟨.bl (!l.isEmpty), [.ml p1, .val (hostD bs), .ml (l.map Bf.d), .ml (g.map Bf.d), .val (.lst []), .un, .un, .un], ?_, ?_⟩
    · rw [ev_bcmp]
      unfold xBcmp
      show (R.bind (evE cc (.lst .nil) _) _) = _
      rw [show evE cc (.lst .nil) [.ml p1, .val (hostD bs), .ml (l.map Bf.d), .ml (g.map Bf.d), .val (.lst []), .un, .un, .un] = .ok (.lst []) [.ml p1, .val (hostD bs), .ml (l.map Bf.d), .ml (g.map Bf.d), .val (.lst []), .un, .un, .un] from rfl, ok_bind]
      show lift ((cmpD .NotEq (.lst (l.map Bf.d)) (.lst [])).map Mi.D.bl) _ = _
      have : cmpD .NotEq (.lst (l.map Bf.d)) (.lst []) = some (!l.isEmpty) := by
        show (if ((Mi.D.lst (l.map Bf.d)).fit deep && (Mi.D.lst []).fit deep) = true then some ((Mi.D.lst (l.map Bf.d)).eqb (.lst [])) else none).map (!·) = _
        rw [if_pos]
        · cases l <;> rfl
        · rw [Bool.and_eq_true]
          refine ⟨?_, rfl⟩
          show (l.map Bf.d).all (·.fit 39) = true
          rw [List.all_map]
          exact List.all_eq_true.mpr fun b _ => rfl
      rw [this]; rfl
    · cases l with
      | nil => exact .inl ⟨rfl, g, p1, by simpa using hp, hb.mono (by simp at hlen; omega), rfl⟩
      | cons y l =>
        refine .inr ⟨rfl, l.length, ?_⟩
        generalize hL : y :: l = L
        have hLl : L.length = l.length + 1 := by rw [← hL]; rfl
        have hlen' : g.length + L.length = bs.length := by rw [hLl]; simpa using hlen
        obtain ⟨v, p2, v1, v2, hb2, hr⟩ := take hb (by omega) (s := ((L.map Bf.d).length : Int)) (by rw [List.length_map]; omega) (by rw [List.length_map]; omega) n
        rw [List.length_map] at v2 hr
        have hv : v = ((v.toNat : Nat) : Int) := by omega
        have hlt : v.toNat < L.length := by omega
        have hlt2 : v.toNat < (L.map Bf.d).length := by rw [List.length_map]; exact hlt
        have hc : evE cc (.call 11 (.cons false (.v 0) (.cons false (.blen 2) .nil))) [.ml p1, .val (hostD bs), .ml (L.map Bf.d), .ml (g.map Bf.d), .val (.lst []), .un, .un, .un] = .ok (.int v) [.ml p2, .val (hostD bs), .ml (L.map Bf.d), .ml (g.map Bf.d), .val (.lst []), .un, .un, .un] := by
          subst hcc
          exact call_lend (ds := [.int (L.length : Int)]) (e1 := [.ml p1, .val (hostD bs), .ml (L.map Bf.d), .ml (g.map Bf.d), .val (.lst []), .un, .un, .un]) rfl rfl (es_of (by have := blen_of (c := T.p.cfg (T.p.run (n + 1)) f1002 [.ml p, .val (hostD bs)]) (e := [.ml p1, .val (hostD bs), .ml (L.map Bf.d), .ml (g.map Bf.d), .val (.lst []), .un, .un, .un]) (i := 2) (xs := L.map Bf.d) rfl; rw [List.length_map] at this; exact this) es_end) rfl hr rfl
        have hp2 : evE cc (.pop 2 (.cons false (.call 11 (.cons false (.v 0) (.cons false (.blen 2) .nil))) .nil)) [.ml p1, .val (hostD bs), .ml (L.map Bf.d), .ml (g.map Bf.d), .val (.lst []), .un, .un, .un] = .ok (L[v.toNat]).d [.ml p2, .val (hostD bs), .ml ((L.map Bf.d).eraseIdx v.toNat), .ml (g.map Bf.d), .val (.lst []), .un, .un, .un] :=
          pop_of (k := v) (j := v.toNat) rfl (es_of hc es_end) rfl (by unfold big; omega) (by rw [hv]; exact ix_nat hlt2) (by rw [List.getElem?_eq_getElem hlt2, List.getElem_map])
        have he : (L.eraseIdx v.toNat).map Bf.d = (L.map Bf.d).eraseIdx v.toNat := erase_map _ _ _
        refine ⟨[.ml p2, .val (hostD bs), .ml ((L.eraseIdx v.toNat).map Bf.d), .ml ((g ++ [L[v.toNat]]).map Bf.d), .val (.lst []), .un, .un, .un], by rw [← hLl, hL] at *; omega, ?_, L.eraseIdx v.toNat, g ++ [L[v.toNat]], p2, ?_, ?_, hb2.mono (by rw [List.length_append]; simp; omega), rfl⟩
        · rw [s_step (app_of rfl hp2 rfl (by rw [List.length_map]; have := line_of (k := 7) (by decide); omega)), he, List.map_append]
          rfl
        · rw [List.append_assoc]
          exact (List.Perm.append_left _ (erase_perm hlt)).trans (hL ▸ hp)
        · rw [List.length_eraseIdx_of_lt hlt]; omega
  obtain ⟨e', s2, l, p2, hperm, hb2, rfl⟩ := s2
  have hll : l.length ≤ 6 := by rw [hperm.length_eq]; exact hfew
  have i3 : evI cc (.enum (.v 3)) [.ml p2, .val (hostD bs), .ml [], .ml (l.map Bf.d), .val (.lst []), .un, .un, .un] = .ok (enumD 0 (l.map Bf.d)) [.ml p2, .val (hostD bs), .ml [], .val (.lst (l.map Bf.d)), .val (.lst []), .un, .un, .un] := by
    rw [ei_enum, v_ml rfl (by subst hcc; rfl), ok_bind]; rfl
  obtain ⟨e4, s3, a, r', qs, x5, x6, h1, h2, h3, h4, h5, rfl⟩ := for_inv (c := cc) (tg := .t [5, 6]) (b := .cons (.asg 4 (.bop .Add (.v 4) (.comp [7] (.tup (.cons false (.sub (.v 7) (.k (.int 0))) (.cons false (.sub (.v 6) (.k (.int 0))) .nil))) (.n 7) (.e (.sl (.v 3) .nil (.cons false (.v 5) .nil))) (.cons false (.call 1000 (.cons false (.v 7) (.cons false (.v 6) .nil))) .nil)))) .nil) (e := [.ml p2, .val (hostD bs), .ml [], .ml (l.map Bf.d), .val (.lst []), .un, .un, .un])
    (I := fun r e => ∃ (a r' : List Bf) (qs : List (Str × Str)) (x5 x6 : P), l = a ++ r' ∧ r = enumD a.length (r'.map Bf.d) ∧ (∀ q ∈ qs, ∃ u ∈ a, ∃ v ∈ a, q = (u.nm, v.nm) ∧ meet u v = true ∧ u.nm ≠ v.nm) ∧ a.Pairwise (fun u v => meet u v = true → (u.nm, v.nm) ∈ qs) ∧ qs.length ≤ 6 * a.length ∧ e = [.ml p2, .val (hostD bs), .ml [], .val (.lst (l.map Bf.d)), .val (.lst (qs.map pairD)), x5, x6, .un]) i3 ⟨[], l, [], .un, .un, rfl, rfl, by simp, List.Pairwise.nil, by simp, rfl⟩ (by
      rintro x r e ⟨a, r', qs, x5, x6, h1, h2, h3, h4, h5, rfl⟩
      cases r' with
      | nil => simp [enumD] at h2
      | cons b r' =>
        simp only [List.map_cons, enumD, List.cons.injEq] at h2
        obtain ⟨rfl, rfl⟩ := h2
        have hal : a.length ≤ 6 := by rw [h1, List.length_append] at hll; omega
        have hnd : (l.map (·.nm)).Nodup := ((hperm.map (·.nm)).nodup_iff).mpr hh.nodup
        rw [h1, List.map_append, List.nodup_append] at hnd
        have hne : ∀ u ∈ a, u.nm ≠ b.nm := fun u hu => hnd.2.2 u.nm (List.mem_map_of_mem hu) b.nm (by simp)
        refine ⟨[.ml p2, .val (hostD bs), .ml [], .val (.lst (l.map Bf.d)), .val (.lst (qs.map pairD)), .val (nD a.length), .val b.d, .un], by subst hcc; rfl, rfl, [.ml p2, .val (hostD bs), .ml [], .val (.lst (l.map Bf.d)), .val (.lst ((qs ++ addQ a b).map pairD)), .val (nD a.length), .val b.d, .un], ?_, a ++ [b], r', qs ++ addQ a b, _, _, by rw [h1]; simp, by rw [List.length_append]; rfl, ?_, ?_, ?_, rfl⟩
        · have c1 := comp_fm (c := cc) (i := 7) (elt := .tup (.cons false (.sub (.v 7) (.k (.int 0))) (.cons false (.sub (.v 6) (.k (.int 0))) .nil))) (it := .e (.sl (.v 3) .nil (.cons false (.v 5) .nil))) (ifs := .cons false (.call 1000 (.cons false (.v 7) (.cons false (.v 6) .nil))) .nil) (xs := a.map Bf.d)
            (e := [.ml p2, .val (hostD bs), .ml [], .val (.lst (l.map Bf.d)), .val (.lst (qs.map pairD)), .val (nD a.length), .val b.d, .un]) (e1 := [.ml p2, .val (hostD bs), .ml [], .val (.lst (l.map Bf.d)), .val (.lst (qs.map pairD)), .val (nD a.length), .val b.d, .un])
            (g := fun x => match bfOf x with | some y => pairD (y.nm, b.nm) | none => .non) (p := fun x => match bfOf x with | some y => meet y b | none => false) (fun k => by simp) (by
              rw [ei_e, ev_sl, v_val rfl, ok_bind, evs_nil, parts_nil, ok_bind, evs_cons, evs_nil, parts_one, v_val rfl, ok_bind]
              show (R.bind (lift (some (some (Int.ofNat a.length))) _) _).bind _ = _
              rw [lift_some, ok_bind]
              show (lift (some (Mi.D.lst (cutD (l.map Bf.d) none (some (Int.ofNat a.length))))) _).bind _ = _
              rw [lift_some, ok_bind, cut_take _ _ (by rw [List.length_map, h1, List.length_append]; omega)]
              have : (l.map Bf.d).take a.length = a.map Bf.d := by rw [h1, ← List.map_take, List.take_left]
              rw [this]; rfl) (by subst hcc; rfl) (line_of (by rw [List.length_map]; omega)) (by
              intro x hx
              obtain ⟨y, hy, rfl⟩ := List.mem_map.mp hx
              have : evE cc (.call 1000 (.cons false (.v 7) (.cons false (.v 6) .nil))) [.ml p2, .val (hostD bs), .ml [], .val (.lst (l.map Bf.d)), .val (.lst (qs.map pairD)), .val (nD a.length), .val b.d, .val y.d] = .ok (.bl (meet y b)) [.ml p2, .val (hostD bs), .ml [], .val (.lst (l.map Bf.d)), .val (.lst (qs.map pairD)), .val (nD a.length), .val b.d, .val y.d] := by
                subst hcc
                exact call_val (ds := [b.d]) (e1 := [.ml p2, .val (hostD bs), .ml [], .val (.lst (l.map Bf.d)), .val (.lst (qs.map pairD)), .val (nD a.length), .val b.d, .val y.d]) rfl (v_val rfl) (es_of (v_val rfl) es_end) (r1000 n y b)
              show tsC _ [.ml p2, .val (hostD bs), .ml [], .val (.lst (l.map Bf.d)), .val (.lst (qs.map pairD)), .val (nD a.length), .val b.d, .val y.d] = _
              rw [evs_cons, ts_cons, this, ok_bind]
              show (lift (some (meet y b)) _).bind _ = R.ok (meet y b) _
              rw [lift_some, ok_bind]
              cases meet y b <;> rfl) (by
              intro x hx _
              obtain ⟨y, hy, rfl⟩ := List.mem_map.mp hx
              show evE cc _ [.ml p2, .val (hostD bs), .ml [], .val (.lst (l.map Bf.d)), .val (.lst (qs.map pairD)), .val (nD a.length), .val b.d, .val y.d] = _
              rw [ev_tup, es_of (sub_of (d := .str y.nm) (v_val rfl) ev_k rfl) (es_of (sub_of (d := .str b.nm) (v_val rfl) ev_k rfl) es_end), ok_bind, if_pos (line_of (by simp))]
              rfl)
          have e2 : ((a.map Bf.d).filter (fun x => match bfOf x with | some y => meet y b | none => false)).map (fun x => match bfOf x with | some y => pairD (y.nm, b.nm) | none => .non) = (addQ a b).map pairD := by
            unfold addQ
            rw [List.filter_map, List.map_map, List.map_map]
            rfl
          rw [e2] at c1
          have hal2 : (addQ a b).length ≤ 6 := by
            unfold addQ
            rw [List.length_map]
            exact Nat.le_trans (List.length_filter_le _ _) hal
          have b1 := bop_of (c := cc) (o := .Add) (a := .v 4) (d := .lst ((qs ++ addQ a b).map pairD)) (v_val rfl) c1 (by
            show (if (qs.map pairD).length + ((addQ a b).map pairD).length ≤ sizeLine then some (Mi.D.lst (qs.map pairD ++ (addQ a b).map pairD)) else none) = _
            rw [if_pos (line_of (by rw [List.length_map, List.length_map]; omega)), List.map_append])
          rw [s_step (asg_of b1 (by subst hcc; rfl))]
          subst hcc; rfl
        · intro q hq
          rcases List.mem_append.mp hq with e | e
          · obtain ⟨u, hu, v, hv, z⟩ := h3 q e
            exact ⟨u, by simp [hu], v, by simp [hv], z⟩
          · obtain ⟨u, hu, rfl⟩ := List.mem_map.mp e
            obtain ⟨hu, hm⟩ := List.mem_filter.mp hu
            exact ⟨u, by simp [hu], b, by simp, rfl, hm, hne u hu⟩
        · rw [List.pairwise_append]
          refine ⟨h4.imp fun hi hm => List.mem_append.mpr (.inl (hi hm)), by simp, fun u hu v hv hm => ?_⟩
          simp at hv
          subst hv
          exact List.mem_append.mpr (.inr (List.mem_map.mpr ⟨u, List.mem_filter.mpr ⟨hu, hm⟩, rfl⟩))
        · have : (addQ a b).length ≤ 6 := by
            unfold addQ
            rw [List.length_map]
            exact Nat.le_trans (List.length_filter_le _ _) hal
          rw [List.length_append, List.length_append]
          simp
          omega)
  have hr' : r' = [] := by cases r' with | nil => rfl | cons _ _ => simp [enumD] at h2
  subst hr'
  rw [List.append_nil] at h1
  subst h1
  obtain ⟨zs, z1, z2⟩ := sort_q qs
  refine ⟨zs, p2, ⟨fun q hq => ?_, fun a ha b hb hne hm => ?_, by rw [z2.length_eq]; omega⟩, hb2, ?_⟩
  · obtain ⟨u, hu, v, hv, z⟩ := h3 q (z2.mem_iff.mp hq)
    exact ⟨u, hperm.mem_iff.mp hu, v, hperm.mem_iff.mp hv, z⟩
  · rcases pw_all h4 a (hperm.mem_iff.mpr ha) b (hperm.mem_iff.mpr hb) (fun z => hne (by rw [z])) with e | e
    · exact .inl (z2.mem_iff.mpr (e hm))
    · exact .inr (z2.mem_iff.mpr (e (by rw [meet_symm]; exact hm)))
  · have t3 : evE cc (.bi .tuple (.cons false (.bi .sorted (.cons false (.v 4) .nil)) .nil)) [.ml p2, .val (hostD bs), .ml [], .val (.lst (l.map Bf.d)), .val (.lst (qs.map pairD)), x5, x6, .un] = .ok (orderD zs) [.ml p2, .val (hostD bs), .ml [], .val (.lst (l.map Bf.d)), .val (.lst (qs.map pairD)), x5, x6, .un] := by
      refine bi_of (x := .lst (zs.map pairD)) (bi_of (v_val rfl) ?_) rfl
      show (sortD (qs.map pairD)).map Mi.D.lst = _
      rw [z1]; rfl
    unfold b1002
    rw [s_step s1, s_step s2, s_step s3, s_rt (ret_of t3 (by subst hcc; rfl))]
    rfl
end Lk55
end
section
namespace Lk55
open PySem L2 Mi
theorem comp_draw {c : Cfg} {j K : Nat} {elt : M} {it : Mi.It} {xs : List Mi.D} {N B : Int} {p : List Mi.D} {rest : List P} (hb : ∀ k, it ≠ .b k) (h : evI c it (.ml p :: rest) = .ok xs (.ml p :: rest)) (hp : (plainP (gt rest j) && !c.lent (j + 1)) = true) (hz : xs.length ≤ 1000) (hB : Bx N p) (hN : N + xs.length < B)
    (hel : ∀ x ∈ xs, ∀ M p, Bx M p → M < B → ∃ (k : Nat) (p' : List Mi.D), k ≤ K ∧ Bx (M + 1) p' ∧ evE c elt (.ml p :: rest.set j (.val x)) = .ok (nD k) (.ml p' :: rest.set j (.val x))) :
    ∃ (ks : List Nat) (p' : List Mi.D), ks.length = xs.length ∧ (∀ k ∈ ks, k ≤ K) ∧ Bx (N + xs.length) p' ∧ evE c (.comp [j + 1] elt (.n (j + 1)) it .nil) (.ml p :: rest) = .ok (.lst (ks.map nD)) (.ml p' :: rest) := by
  obtain ⟨ds, e', h1, l, r, ks, p', h2, h3, h4, h9, h5, h6, h7⟩ := comp_inv (c := c) (own := [j + 1]) (tg := .n (j + 1)) (elt := elt) (ifs := .nil) (e := .ml p :: rest) (e1 := .ml p :: rest)
    (I := fun r ds e => ∃ (l r' : List Mi.D) (ks : List Nat) (p' : List Mi.D), xs = l ++ r' ∧ r = r' ∧ ks.length = l.length ∧ (∀ k ∈ ks, k ≤ K) ∧ ds = ks.map nD ∧ Bx (N + l.length) p' ∧ e = .ml p' :: rest.set j .un) hb h (by have hp : (plainP (gt (P.ml p :: rest) (j + 1)) && !c.lent (j + 1)) = true := hp; simpa using hp) (line_of (by omega)) ⟨[], xs, [], p, rfl, rfl, rfl, by simp, rfl, hB.mono (by simp), rfl⟩ (by
      rintro x r ds e ⟨l, r', ks, p', h2, rfl, h4, h9, rfl, h6, rfl⟩
      have hx : x ∈ xs := by rw [h2]; simp
      have hl : l.length < xs.length := by rw [h2]; simp
      obtain ⟨k, p2, g0, g1, g2⟩ := hel x hx _ p' h6 (by omega)
      refine ⟨.ml p' :: rest.set j (.val x), true, .ml p' :: rest.set j (.val x), ?_, rfl, .inr ⟨rfl, nD k, _, g2, l ++ [x], r, ks ++ [k], p2, by rw [h2]; simp, rfl, by simp [h4], (fun z hz => by rcases List.mem_append.mp hz with e | e; exact h9 z e; simp at e; omega), by simp, g1.mono (by simp; omega), ?_⟩⟩
      · show some (P.ml p' :: (rest.set j .un).set j (.val x)) = _
        rw [List.set_set]
      · show P.ml p2 :: (rest.set j (.val x)).set j .un = _
        rw [List.set_set])
  subst h3
  rw [List.append_nil] at h2
  subst h2
  refine ⟨ks, p', h4, h9, h6, ?_⟩
  rw [h1, h5]
  have hbk : backL (.ml p :: rest) e' [j + 1] = .ml p' :: rest := by
    show e'.set (j + 1) (gt rest j) = _
    have h7 : e'.set (j + 1) .un = .ml p' :: rest.set j .un := h7
    have h8 : (e'.set (j + 1) .un).set (j + 1) (gt rest j) = (P.ml p' :: rest.set j .un).set (j + 1) (gt rest j) := by rw [h7]
    rw [List.set_set] at h8
    rw [h8]
    show P.ml p' :: (rest.set j .un).set j (gt rest j) = _
    rw [set_back]
  rw [hbk]
theorem fn_of (K : Nat) : ∀ (bs : List Bf) (ks : List Nat), (bs.map (·.nm)).Nodup → ks.length = bs.length → (∀ k ∈ ks, k ≤ K) → ∃ f : Str → Nat, ks.map nD = valL bs f ∧ ∀ s, f s ≤ K
  | [], [], _, _, _ => ⟨fun _ => 0, rfl, fun _ => Nat.zero_le _⟩
  | b :: bs, k :: ks, hn, hl, hk => by
    rw [List.map_cons, List.nodup_cons] at hn
    obtain ⟨f, hf, hf2⟩ := fn_of K bs ks hn.2 (by simpa using hl) (fun z hz => hk z (List.mem_cons_of_mem _ hz))
    refine ⟨fun s => if s = b.nm then k else f s, ?_, fun s => by show (if s = b.nm then k else f s) ≤ K; split; exact hk k List.mem_cons_self; exact hf2 s⟩
    unfold valL at hf ⊢
    rw [List.map_cons, List.map_cons, hf]
    simp only [if_true]
    congr 1
    refine List.map_congr_left fun y hy => ?_
    rw [if_neg]
    intro z
    exact hn.1 (z ▸ List.mem_map_of_mem hy)
theorem r1003 (n : Nat) (bs : List Bf) (h : bs.length ≤ 6) : T.p.run (n + 1) 1003 [.val (hostD bs)] = .ok (.lst (nmL bs)) [.val (hostD bs)] := by
  rw [run_fn (fn := f1003) rfl rfl rfl]
  generalize hcc : T.p.cfg (T.p.run n) f1003 [.val (hostD bs)] = cc
  show endF f1003 (evSs cc b1003 [.val (hostD bs), .un]) = _
  have hc := comp_m (c := cc) (i := 1) (elt := .sub (.v 1) (.k (.int 0))) (it := .e (.v 0)) (xs := bs.map Bf.d) (g := fun x => match bfOf x with | some y => .str y.nm | none => .non) (e := [.val (hostD bs), .un]) (e1 := [.val (hostD bs), .un]) (fun k => by simp) (by subst hcc; rfl) (by subst hcc; rfl) (line_of (by rw [List.length_map]; omega)) (by
    intro x hx
    obtain ⟨b, hb, rfl⟩ := List.mem_map.mp hx
    exact sub_of (v_val rfl) ev_k rfl)
  rw [List.map_map] at hc
  unfold b1003
  rw [s_rt (ret_own hc (by subst hcc; rfl))]
  rfl
theorem law_sizes {N : Int} {p : List Mi.D} (h : Bx N p) (hN : N < 2 ^ 50) (bs : List Bf) (hh : Host bs) (n : Nat) : ∃ sz p', (∀ s, sz s ≤ 4) ∧ Bx (N + 6) p' ∧ T.p.run (n + 3) 1004 [.ml p, .val (hostD bs), .val (.lst [.int 0, .int 1, .int 2, .int 4])] = .ok (.tup (valL bs sz)) [.ml p', .val (hostD bs), .val (.lst [.int 0, .int 1, .int 2, .int 4])] := by
  rw [run_fn (fn := f1004) rfl rfl rfl]
  generalize hcc : T.p.cfg (T.p.run (n + 2)) f1004 [.ml p, .val (hostD bs), .val (.lst [.int 0, .int 1, .int 2, .int 4])] = cc
  show ∃ sz p', _ ∧ _ ∧ endF f1004 (evSs cc b1004 [.ml p, .val (hostD bs), .val (.lst [.int 0, .int 1, .int 2, .int 4]), .un]) = _
  have hfew := hh.few
  obtain ⟨ks, p', h1, h9, h2, h3⟩ := comp_draw (c := cc) (j := 2) (K := 4) (elt := .call 13 (.cons false (.v 0) (.cons false (.v 2) .nil))) (it := .e (.v 1)) (xs := bs.map Bf.d) (rest := [.val (hostD bs), .val (.lst [.int 0, .int 1, .int 2, .int 4]), .un]) (B := 2 ^ 60) (fun k => by simp) (by rw [ei_e, v_val rfl, ok_bind]; rfl) (by subst hcc; rfl) (by rw [List.length_map]; omega) h (by rw [List.length_map]; omega) (by
    intro x hx M p hB hM
    obtain ⟨d, p2, d1, d2, d3⟩ := law_of hB hM (goods := .lst [.int 0, .int 1, .int 2, .int 4]) (.inl rfl) (by simp) (by simp) n
    obtain ⟨k, hk4, rfl⟩ : ∃ k : Nat, k ≤ 4 ∧ d = nD k := by
      simp only [List.mem_cons, List.not_mem_nil, or_false] at d1
      rcases d1 with e | e | e | e <;> subst e
      · exact ⟨0, by omega, rfl⟩
      · exact ⟨1, by omega, rfl⟩
      · exact ⟨2, by omega, rfl⟩
      · exact ⟨4, by omega, rfl⟩
    refine ⟨k, p2, hk4, d2, ?_⟩
    subst hcc
    exact call_lend (ds := [.lst [.int 0, .int 1, .int 2, .int 4]]) (e1 := .ml p :: [.val (hostD bs), .val (.lst [.int 0, .int 1, .int 2, .int 4]), .val x]) rfl rfl (es_of (v_val rfl) es_end) rfl d3 rfl)
  rw [List.length_map] at h1 h2
  obtain ⟨sz, hsz, hs4⟩ := fn_of 4 bs ks hh.nodup h1 h9
  rw [hsz] at h3
  refine ⟨sz, p', hs4, h2.mono (by omega), ?_⟩
  unfold b1004
  rw [s_rt (ret_of (bi_of h3 (d := .tup (valL bs sz)) rfl) (by subst hcc; rfl))]
  rfl
theorem r16p (n : Nat) (q : Str × Str) : T.p.run (n + 2) 16 [.val (pairD q)] = .ok (pairT false q) [.val (pairD q)] := by kernel_rfl
theorem r16 (n : Nat) (ps : List (Str × Str)) (h : ps.length ≤ 1000) : T.p.run (n + 3) 16 [.val (orderD ps)] = .ok (seqT false (ps.map (pairT false))) [.val (orderD ps)] := by
  rw [run_fn (fn := f16) rfl rfl rfl]
  generalize hcc : T.p.cfg (T.p.run (n + 2)) f16 [.val (orderD ps)] = cc
  show endF f16 (evSs cc b16 [.val (orderD ps), .un]) = _
  have hc := comp_m (c := cc) (i := 1) (elt := .call 16 (.cons false (.v 1) .nil)) (it := .e (.v 0)) (xs := ps.map pairD) (g := fun x => match x with | .tup xs => .lst xs | _ => .non) (e := [.val (orderD ps), .un]) (e1 := [.val (orderD ps), .un]) (fun k => by simp) (by subst hcc; rfl) (by subst hcc; rfl) (line_of (by rw [List.length_map]; omega)) (by
    intro x hx
    obtain ⟨b, hb, rfl⟩ := List.mem_map.mp hx
    subst hcc
    exact call_val (ds := []) (e1 := [.val (orderD ps), .val (pairD b)]) (e2 := [.val (orderD ps), .val (pairD b)]) rfl (v_val rfl) es_end (r16p n b))
  have hr := ite_t (c := cc) (t := .isi (.v 0) [.list, .tuple]) (b := .v 0) (a := .comp [1] (.call 16 (.cons false (.v 1) .nil)) (.n 1) (.e (.v 0)) .nil) (e := [.val (orderD ps), .un]) (e1 := [.val (orderD ps), .un]) (d := .bl true) rfl rfl
  rw [hc, List.map_map] at hr
  unfold b16
  rw [s_rt (ret_of hr (by subst hcc; rfl))]
  rfl
theorem r15i (n : Nat) (h : Int) : T.p.run (n + 1) 15 [.val (.int h), .val (.int h)] = .ok (.bl true) [.val (.int h), .val (.int h)] := by
  have : T.p.run (n + 1) 15 [.val (.int h), .val (.int h)] = .ok (.bl (h == h)) [.val (.int h), .val (.int h)] := by kernel_rfl
  rw [this]; simp
theorem r15b (n : Nat) (b : Bool) : T.p.run (n + 1) 15 [.val (.bl b), .val (.bl b)] = .ok (.bl true) [.val (.bl b), .val (.bl b)] := by cases b <;> kernel_rfl
def six (p c : Bool) (h : Int) : List Mi.D := [.bl p, .bl p, .int h, .int h, .bl c, .bl c]
theorem r15 (n : Nat) (p c : Bool) (h : Int) : T.p.run (n + 2) 15 [.val (.lst (six p c h)), .val (.lst (six p c h))] = .ok (.bl true) [.val (.lst (six p c h)), .val (.lst (six p c h))] := by
  rw [run_fn (fn := f15) rfl rfl rfl]
  generalize hcc : T.p.cfg (T.p.run (n + 1)) f15 [.val (.lst (six p c h)), .val (.lst (six p c h))] = cc
  show endF f15 (evSs cc b15 [.val (.lst (six p c h)), .val (.lst (six p c h)), .un, .un]) = _
  have hc := comp_t (c := cc) (i := 2) (k := 3) (elt := .call 15 (.cons false (.v 2) (.cons false (.v 3) .nil))) (it := .zip (.cons false (.v 0) (.cons false (.v 1) .nil))) (xs := (six p c h).map fun x => .tup [x, x]) (e := [.val (.lst (six p c h)), .val (.lst (six p c h)), .un, .un]) (e1 := [.val (.lst (six p c h)), .val (.lst (six p c h)), .un, .un])
    (g := fun _ => .bl true) (by decide) (fun k => by simp) (by subst hcc; rfl) (by subst hcc; rfl) (by subst hcc; rfl) (line_of (by simp [six])) (by
      intro x hx
      obtain ⟨y, hy, rfl⟩ := List.mem_map.mp hx
      refine ⟨y, y, .inl rfl, ?_⟩
      have hy2 : T.p.run (n + 1) 15 [.val y, .val y] = .ok (.bl true) [.val y, .val y] := by
        simp only [six, List.mem_cons, List.not_mem_nil, or_false] at hy
        rcases hy with e | e | e | e | e | e <;> subst e <;> first | exact r15b n _ | exact r15i n _
      subst hcc
      exact call_val (ds := [y]) (e1 := [.val (.lst (six p c h)), .val (.lst (six p c h)), .val y, .val y]) rfl (v_val rfl) (es_of (v_val rfl) es_end) hy2)
  have t0 : evE cc (.isi (.v 1) [.list, .tuple]) [.val (.lst (six p c h)), .val (.lst (six p c h)), .un, .un] = .ok (.bl true) [.val (.lst (six p c h)), .val (.lst (six p c h)), .un, .un] := rfl
  have t1 : evE cc (.cmp (.isi (.v 0) [.list]) .NotEq (.isi (.v 1) [.list])) [.val (.lst (six p c h)), .val (.lst (six p c h)), .un, .un] = .ok (.bl false) [.val (.lst (six p c h)), .val (.lst (six p c h)), .un, .un] := rfl
  have t2 : evE cc (.cmp (.isi (.v 0) [.tuple]) .NotEq (.isi (.v 1) [.tuple])) [.val (.lst (six p c h)), .val (.lst (six p c h)), .un, .un] = .ok (.bl false) [.val (.lst (six p c h)), .val (.lst (six p c h)), .un, .un] := rfl
  have t3 : evE cc (.cmp (.bi .len (.cons false (.v 0) .nil)) .Eq (.bi .len (.cons false (.v 1) .nil))) [.val (.lst (six p c h)), .val (.lst (six p c h)), .un, .un] = .ok (.bl true) [.val (.lst (six p c h)), .val (.lst (six p c h)), .un, .un] := rfl
  have t4 := bool2 t3 (bi_of (b := .all) (d := .bl true) hc rfl)
  unfold b15
  rw [s_rt ((ife_t t0 rfl).trans ((s_step (ife_f t1 rfl)).trans ((s_step (ife_f t2 rfl)).trans (s_rt (ret_of t4 (by subst hcc; rfl))))))]
  rfl
end Lk55
end
section
namespace Lk55
open PySem L2 Mi
/-- no two that meet overlap -/
def Free (bs : List Bf) (sz sp : Str → Nat) : Prop := ∀ x ∈ bs, ∀ y ∈ bs, x.nm ≠ y.nm → meet x y = true → bad sz sp x.nm y.nm = false
theorem bad_symm (sz sp : Str → Nat) (a b : Str) : bad sz sp a b = bad sz sp b a := by
  unfold bad
  cases decide (0 < sz a) <;> cases decide (0 < sz b) <;> cases decide (sp b < sp a + sz a) <;> cases decide (sp a < sp b + sz b) <;> rfl
theorem free_meets {bs : List Bf} (h : Host bs) (sz sp : Str → Nat) : (meetL bs).all (fun q => !bad sz sp q.1 q.2) = true ↔ Free bs sz sp := by
  rw [List.all_eq_true]
  constructor
  · intro ha x hx y hy hne hm
    have key : ∀ x ∈ bs, ∀ y ∈ bs, x.nm ≠ y.nm → meet x y = true → slt x.nm y.nm → bad sz sp x.nm y.nm = false := by
      intro x hx y hy hne hm hlt
      have : (x.nm, y.nm) ∈ meetL bs := List.mem_flatMap.mpr ⟨x, hx, List.mem_map.mpr ⟨y, List.mem_filter.mpr ⟨hy, by rw [hm, ltb_d hne, decide_eq_true hlt]; rfl⟩, rfl⟩⟩
      simpa using ha _ this
    by_cases hlt : slt x.nm y.nm
    · exact key x hx y hy hne hm hlt
    · rw [bad_symm]
      exact key y hy x hx (Ne.symm hne) (by rw [meet_symm]; exact hm) (six_total _ (h.six x hx) _ (h.six y hy) hne hlt)
  · intro hf q hq
    obtain ⟨x, hx, hq⟩ := List.mem_flatMap.mp hq
    obtain ⟨y, hy, rfl⟩ := List.mem_map.mp hq
    obtain ⟨hy, hm⟩ := List.mem_filter.mp hy
    rw [Bool.and_eq_true] at hm
    have hne : x.nm ≠ y.nm := by
      intro z
      have hb : x = y := by
        have hnd := h.nodup
        have : ∀ {l : List Bf}, (l.map (·.nm)).Nodup → x ∈ l → y ∈ l → x = y := by
          intro l
          induction l with
          | nil => intro _ hx; cases hx
          | cons b l ih =>
            intro hn hx hy
            rw [List.map_cons, List.nodup_cons] at hn
            rcases List.mem_cons.mp hx with e | e
            · rcases List.mem_cons.mp hy with e2 | e2
              · rw [e, e2]
              · exact absurd (by rw [← e, z]; exact List.mem_map_of_mem e2) hn.1
            · rcases List.mem_cons.mp hy with e2 | e2
              · exact absurd (by rw [← e2, ← z]; exact List.mem_map_of_mem e) hn.1
              · exact ih hn.2 e e2
        exact this hnd hx hy
      have h1 := hm.1
      subst hb
      have : x.d.ltb x.d = false := by
        show (if (x.nm == x.nm) = true then (if (Int.ofNat x.lo == Int.ofNat x.lo) = true then (if (Int.ofNat x.hi == Int.ofNat x.hi) = true then false else _) else _) else _) = false
        rw [if_pos (by simp), if_pos (by simp), if_pos (by simp)]
      rw [this] at h1
      cases h1
    have := hf x hx y hy hne hm.2
    simp [this]
/-- follows: an order that holds every meeting pair one way round leaves no overlap -/
theorem follows_free {bs : List Bf} {ps : List (Str × Str)} (ho : Ord bs ps) (sz sp : Str → Nat) (h : ∀ q ∈ ps, sp q.1 + sz q.1 ≤ sp q.2) : Free bs sz sp := by
  intro x hx y hy hne hm
  unfold bad
  rcases ho.all x hx y hy hne hm with e | e
  · have := h _ e
    simp only at this
    have h1 : decide (sp y.nm < sp x.nm + sz x.nm) = false := decide_eq_false (by omega)
    rw [h1]; simp
  · have := h _ e
    simp only at this
    have h1 : decide (sp x.nm < sp y.nm + sz y.nm) = false := decide_eq_false (by omega)
    rw [h1]; simp
theorem cells_bad (s w t v : Nat) : ((rngI (Int.ofNat s) (Int.ofNat (s + w))).filter fun z => match z with | .int i => decide (Int.ofNat t ≤ i) && decide (i < Int.ofNat (t + v)) | _ => false) = [] ↔ ((decide (0 < w) && decide (0 < v)) && (decide (t < s + w) && decide (s < t + v))) = false := by
  rw [List.filter_eq_nil_iff]
  have hl : (Int.ofNat (s + w) - Int.ofNat s).toNat = w := by simp; omega
  unfold rngI
  rw [hl]
  constructor
  · intro h
    by_cases hc : 0 < w ∧ 0 < v ∧ t < s + w ∧ s < t + v
    · exfalso
      have hk : max s t - s < w := by omega
      refine h (.int (Int.ofNat s + ((max s t - s : Nat) : Int))) (List.mem_map.mpr ⟨max s t - s, List.mem_range.mpr hk, rfl⟩) ?_
      show (decide (Int.ofNat t ≤ Int.ofNat s + ((max s t - s : Nat) : Int)) && decide (Int.ofNat s + ((max s t - s : Nat) : Int) < Int.ofNat (t + v))) = true
      rw [Bool.and_eq_true]
      constructor <;> refine decide_eq_true ?_ <;> simp <;> omega
    · by_cases a1 : 0 < w
      · by_cases a2 : 0 < v
        · by_cases a3 : t < s + w
          · have a4 : ¬ s < t + v := fun z => hc ⟨a1, a2, a3, z⟩
            rw [decide_eq_false a4]; simp
          · rw [decide_eq_false a3]; simp
        · rw [decide_eq_false a2]; simp
      · rw [decide_eq_false a1]; simp
  · intro h z hz hq
    obtain ⟨k, hk, rfl⟩ := List.mem_map.mp hz
    rw [List.mem_range] at hk
    have hq : (decide (Int.ofNat t ≤ Int.ofNat s + (k : Int)) && decide (Int.ofNat s + (k : Int) < Int.ofNat (t + v))) = true := hq
    rw [Bool.and_eq_true] at hq
    have q1 := of_decide_eq_true hq.1
    have q2 := of_decide_eq_true hq.2
    simp at q1 q2
    rw [decide_eq_true (show 0 < w by omega), decide_eq_true (show 0 < v by omega), decide_eq_true (show t < s + w by omega), decide_eq_true (show s < t + v by omega)] at h
    cases h
theorem enum_mem {x : Mi.D} : ∀ {l : List Bf} {n : Nat}, x ∈ enumD n (l.map Bf.d) → ∃ k b, l[k]? = some b ∧ x = .tup [nD (n + k), b.d]
  | [], n, h => by simp [enumD] at h
  | b :: l, n, h => by
    simp only [List.map_cons, enumD, List.mem_cons] at h
    rcases h with e | e
    · exact ⟨0, b, rfl, e⟩
    · obtain ⟨k, c, h1, h2⟩ := enum_mem e
      exact ⟨k + 1, c, h1, by rw [h2, show n + 1 + k = n + (k + 1) by omega]⟩
theorem enum_all (p : Mi.D → Bool) : ∀ (l : List Bf) (n : Nat), (enumD n (l.map Bf.d)).all p = true ↔ ∀ k b, l[k]? = some b → p (.tup [nD (n + k), b.d]) = true
  | [], n => by simp [enumD]
  | b :: l, n => by
    simp only [List.map_cons, enumD, List.all_cons, Bool.and_eq_true]
    rw [enum_all p l (n + 1)]
    constructor
    · rintro ⟨h1, h2⟩ k c hk
      cases k with
      | zero => cases hk; exact h1
      | succ k => have := h2 k c hk; rwa [show n + 1 + k = n + (k + 1) by omega] at this
    · intro h
      exact ⟨h 0 b rfl, fun k c hk => by have := h (k + 1) c hk; rwa [show n + (k + 1) = n + 1 + k by omega] at this⟩
end Lk55
end
section
namespace Lk55
open PySem L2 Mi
theorem at_nat {xs : List Mi.D} {k : Nat} {d : Mi.D} (h : xs[k]? = some d) : atI xs (Int.ofNat k) = some d := by
  have hk : k < xs.length := by
    by_cases hk : k < xs.length
    · exact hk
    · rw [List.getElem?_eq_none (by omega)] at h; cases h
  unfold atI
  have := ix_nat hk
  rw [show (Int.ofNat k) = (k : Int) from rfl, this]
  exact h
theorem sub_at {bs : List Bf} (f : Str → Nat) {k : Nat} {b : Bf} (h : bs[k]? = some b) : subD (.tup (valL bs f)) (nD k) = some (nD (f b.nm)) := by
  refine at_nat ?_
  unfold valL
  rw [List.getElem?_map, h]; rfl
theorem rng2_of (i j : Int) (h : -bigR ≤ i ∧ i < bigR ∧ -bigR ≤ j ∧ j < bigR) : pxD .rng2 [.int i, .int j] = some (.lst (rngI i j)) := by
  show (if -bigR ≤ i ∧ i < bigR ∧ -bigR ≤ j ∧ j < bigR then some (Mi.D.lst (rngI i j)) else none) = _
  rw [if_pos h]
theorem rng2_nat {s w : Nat} (h : s + w < 1000000) : pxD .rng2 [nD s, nD (s + w)] = some (.lst (rngI (Int.ofNat s) (Int.ofNat (s + w)))) := by
  refine rng2_of _ _ ?_
  have : bigR = 1000000 := rfl
  rw [this]
  have h1 : (Int.ofNat s) = (s : Int) := rfl
  have h2 : (Int.ofNat (s + w)) = ((s + w : Nat) : Int) := rfl
  rw [h1, h2]
  omega
def okAt (bs : List Bf) (sz sp : Str → Nat) : Mi.D → Bool
  | .tup [.int (.ofNat k), x] => match bfOf x with | some b => (enumD 0 ((bs.take k).map Bf.d)).all (fun z => match z with | .tup [_, y] => (match bfOf y with | some y => !(meet b y && bad sz sp b.nm y.nm) | none => true) | _ => true) | none => true
  | _ => true
theorem law_is (n : Nat) (bs : List Bf) (h : Host bs) (sz sp : Str → Nat) (hbd : ∀ b ∈ bs, sp b.nm + sz b.nm < 1000000) :
    ∃ t : Bool, (t = true ↔ Free bs sz sp) ∧ T.p.run (n + 2) 1005 [.val (hostD bs), .val (.tup (valL bs sz)), .val (.tup (valL bs sp))] = .ok (.bl t) [.val (hostD bs), .val (.tup (valL bs sz)), .val (.tup (valL bs sp))] := by
  rw [run_fn (fn := f1005) rfl rfl rfl]
  generalize hcc : T.p.cfg (T.p.run (n + 1)) f1005 [.val (hostD bs), .val (.tup (valL bs sz)), .val (.tup (valL bs sp))] = cc
  show ∃ t, _ ∧ endF f1005 (evSs cc b1005 [.val (hostD bs), .val (.tup (valL bs sz)), .val (.tup (valL bs sp)), .un, .un, .un, .un, .un, .un, .un]) = _
  generalize hS : Mi.D.tup (valL bs sz) = S
  generalize hP : Mi.D.tup (valL bs sp) = Pp
  have hfew := h.few
  have i1 : evI cc (.enum (.v 0)) [.val (hostD bs), .val S, .val Pp, .un, .un, .un, .un, .un, .un, .un] = .ok (enumD 0 (bs.map Bf.d)) [.val (hostD bs), .val S, .val Pp, .un, .un, .un, .un, .un, .un, .un] := by
    rw [ei_enum, v_val rfl, ok_bind]; rfl
  have subS : ∀ {k : Nat} {b : Bf}, bs[k]? = some b → subD S (nD k) = some (nD (sz b.nm)) := fun hk => by rw [← hS]; exact sub_at sz hk
  have subP : ∀ {k : Nat} {b : Bf}, bs[k]? = some b → subD Pp (nD k) = some (nD (sp b.nm)) := fun hk => by rw [← hP]; exact sub_at sp hk
  obtain ⟨e4, ⟨x3, x4, x5, x6, x7, x8, rfl⟩, s1⟩ := for_any (c := cc) (tg := .t [3, 4]) (b := .cons (.asg 5 (.px .rng2 (.cons false (.sub (.v 2) (.v 3)) (.cons false (.bop .Add (.sub (.v 2) (.v 3)) (.sub (.v 1) (.v 3))) .nil)))) (.cons (.for (.t [6, 7]) (.enum (.sl (.v 0) .nil (.cons false (.v 3) .nil))) (.cons (.asg 8 (.comp [9] (.v 9) (.n 9) (.e (.v 5)) (.cons false (.cmp2 (.sub (.v 2) (.v 6)) .LtE (.v 9) .Lt (.bop .Add (.sub (.v 2) (.v 6)) (.sub (.v 1) (.v 6)))) .nil))) (.cons (.ife (.bool true (.cons false (.call 1000 (.cons false (.v 4) (.cons false (.v 7) .nil))) (.cons false (.cmp (.v 8) .NotEq (.lst .nil)) .nil))) (.cons (.ret (.k (.bl false))) .nil) .nil) .nil))) .nil))
    (I := fun e => ∃ x3 x4 x5 x6 x7 x8, e = [.val (hostD bs), .val S, .val Pp, x3, x4, x5, x6, x7, x8, .un]) (d := .bl false) (p := okAt bs sz sp) i1 ⟨_, _, _, _, _, _, rfl⟩ (by
      rintro x hx e ⟨x3, x4, x5, x6, x7, x8, rfl⟩
      obtain ⟨k, b, hk, rfl⟩ := enum_mem hx
      rw [Nat.zero_add]
      have hb : b ∈ bs := List.mem_of_getElem? hk
      have hk2 : k < bs.length := by
        by_cases hk2 : k < bs.length
        · exact hk2
        · rw [List.getElem?_eq_none (by omega)] at hk; cases hk
      have hbb := hbd b hb
      refine ⟨[.val (hostD bs), .val S, .val Pp, .val (nD k), .val b.d, x5, x6, x7, x8, .un], by subst hcc; rfl, rfl, ?_⟩
      have a1 : evS cc (.asg 5 (.px .rng2 (.cons false (.sub (.v 2) (.v 3)) (.cons false (.bop .Add (.sub (.v 2) (.v 3)) (.sub (.v 1) (.v 3))) .nil)))) [.val (hostD bs), .val S, .val Pp, .val (nD k), .val b.d, x5, x6, x7, x8, .un] = .nx [.val (hostD bs), .val S, .val Pp, .val (nD k), .val b.d, .val (.lst (rngI (Int.ofNat (sp b.nm)) (Int.ofNat (sp b.nm + sz b.nm)))), x6, x7, x8, .un] := by
        rw [asg_of (d := .lst (rngI (Int.ofNat (sp b.nm)) (Int.ofNat (sp b.nm + sz b.nm)))) (px_of (es_of (sub_of (v_val rfl) (v_val rfl) (subP hk)) (es_of (bop_of (sub_of (v_val rfl) (v_val rfl) (subP hk)) (sub_of (v_val rfl) (v_val rfl) (subS hk)) (add_nD _ _)) es_end)) (rng2_nat (by omega))) (by subst hcc; rfl)]
        subst hcc; rfl
      have i2 : evI cc (.enum (.sl (.v 0) .nil (.cons false (.v 3) .nil))) [.val (hostD bs), .val S, .val Pp, .val (nD k), .val b.d, .val (.lst (rngI (Int.ofNat (sp b.nm)) (Int.ofNat (sp b.nm + sz b.nm)))), x6, x7, x8, .un] = .ok (enumD 0 ((bs.take k).map Bf.d)) [.val (hostD bs), .val S, .val Pp, .val (nD k), .val b.d, .val (.lst (rngI (Int.ofNat (sp b.nm)) (Int.ofNat (sp b.nm + sz b.nm)))), x6, x7, x8, .un] := by
        rw [ei_enum, ev_sl, v_val rfl, ok_bind, evs_nil, parts_nil, ok_bind, evs_cons, evs_nil, parts_one, v_val rfl, ok_bind]
        show (R.bind (lift (some (some (Int.ofNat k))) _) _).bind _ = _
        rw [lift_some, ok_bind]
        show (lift (some (Mi.D.tup (cutD (bs.map Bf.d) none (some (Int.ofNat k))))) _).bind _ = _
        rw [lift_some, ok_bind, cut_take _ _ (by rw [List.length_map]; omega), ← List.map_take]
        rfl
      obtain ⟨e6, ⟨y6, y7, y8, rfl⟩, s2⟩ := for_any (c := cc) (tg := .t [6, 7]) (b := .cons (.asg 8 (.comp [9] (.v 9) (.n 9) (.e (.v 5)) (.cons false (.cmp2 (.sub (.v 2) (.v 6)) .LtE (.v 9) .Lt (.bop .Add (.sub (.v 2) (.v 6)) (.sub (.v 1) (.v 6)))) .nil))) (.cons (.ife (.bool true (.cons false (.call 1000 (.cons false (.v 4) (.cons false (.v 7) .nil))) (.cons false (.cmp (.v 8) .NotEq (.lst .nil)) .nil))) (.cons (.ret (.k (.bl false))) .nil) .nil) .nil))
        (I := fun e => ∃ y6 y7 y8, e = [.val (hostD bs), .val S, .val Pp, .val (nD k), .val b.d, .val (.lst (rngI (Int.ofNat (sp b.nm)) (Int.ofNat (sp b.nm + sz b.nm)))), y6, y7, y8, .un]) (d := .bl false)
        (p := fun z => match z with | .tup [_, y] => (match bfOf y with | some y => !(meet b y && bad sz sp b.nm y.nm) | none => true) | _ => true) i2 ⟨_, _, _, rfl⟩ (by
          rintro z hz e ⟨y6, y7, y8, rfl⟩
          obtain ⟨j, y, hj, rfl⟩ := enum_mem hz
          rw [Nat.zero_add]
          have hj2 : bs[j]? = some y := by
            rw [List.getElem?_take] at hj
            split at hj
            · exact hj
            · cases hj
          generalize hC : rngI (Int.ofNat (sp b.nm)) (Int.ofNat (sp b.nm + sz b.nm)) = C
          have hClen : C.length ≤ 1000000 := by
            rw [← hC]
            unfold rngI
            rw [List.length_map, List.length_range]
            simp
            omega
          have hz2 : C.length ≤ sizeLine := by
            have h9 : sizeLine = 16777216 := by first | rfl | decide
            omega
          have hCint : ∀ c ∈ C, ∃ i, c = .int i := by
            intro c hc
            rw [← hC] at hc
            obtain ⟨i, _, rfl⟩ := List.mem_map.mp hc
            exact ⟨_, rfl⟩
          have hcell := cells_bad (sp b.nm) (sz b.nm) (sp y.nm) (sz y.nm)
          rw [hC] at hcell
          generalize hF : C.filter (fun z => match z with | .int i => decide (Int.ofNat (sp y.nm) ≤ i) && decide (i < Int.ofNat (sp y.nm + sz y.nm)) | _ => false) = F at hcell
          have c1 : evE cc (.comp [9] (.v 9) (.n 9) (.e (.v 5)) (.cons false (.cmp2 (.sub (.v 2) (.v 6)) .LtE (.v 9) .Lt (.bop .Add (.sub (.v 2) (.v 6)) (.sub (.v 1) (.v 6)))) .nil)) [.val (hostD bs), .val S, .val Pp, .val (nD k), .val b.d, .val (.lst C), .val (nD j), .val y.d, y8, .un] = .ok (.lst F) [.val (hostD bs), .val S, .val Pp, .val (nD k), .val b.d, .val (.lst C), .val (nD j), .val y.d, y8, .un] := by
            have := comp_fm (c := cc) (i := 9) (elt := .v 9) (it := .e (.v 5)) (ifs := .cons false (.cmp2 (.sub (.v 2) (.v 6)) .LtE (.v 9) .Lt (.bop .Add (.sub (.v 2) (.v 6)) (.sub (.v 1) (.v 6)))) .nil) (xs := C)
              (e := [.val (hostD bs), .val S, .val Pp, .val (nD k), .val b.d, .val (.lst C), .val (nD j), .val y.d, y8, .un]) (e1 := [.val (hostD bs), .val S, .val Pp, .val (nD k), .val b.d, .val (.lst C), .val (nD j), .val y.d, y8, .un]) (g := id)
              (p := fun z => match z with | .int i => decide (Int.ofNat (sp y.nm) ≤ i) && decide (i < Int.ofNat (sp y.nm + sz y.nm)) | _ => false) (fun k => by simp) (by rw [ei_e, v_val rfl, ok_bind]; rfl) (by subst hcc; rfl) hz2 (by
                intro c hc
                obtain ⟨i, rfl⟩ := hCint c hc
                show tsC _ [.val (hostD bs), .val S, .val Pp, .val (nD k), .val b.d, .val (.lst C), .val (nD j), .val y.d, y8, .val (.int i)] = _
                rw [evs_cons, ts_cons, ev_cmp2, sub_of (v_val rfl) (v_val rfl) (subP hj2), ok_bind, v_val rfl, ok_bind]
                show ((lift (some (decide (Int.ofNat (sp y.nm) ≤ i))) _).bind _).bind _ = R.ok (decide (Int.ofNat (sp y.nm) ≤ i) && decide (i < Int.ofNat (sp y.nm + sz y.nm))) _
                rw [lift_some, ok_bind]
                cases decide (Int.ofNat (sp y.nm) ≤ i) with
                | false => rfl
                | true =>
                  simp only [if_true]
                  rw [bop_of (sub_of (v_val rfl) (v_val rfl) (subP hj2)) (sub_of (v_val rfl) (v_val rfl) (subS hj2)) (add_nD _ _), ok_bind]
                  show ((lift (some (Mi.D.bl (decide (i < Int.ofNat (sp y.nm + sz y.nm))))) _).bind _) = _
                  rw [lift_some, ok_bind]
                  cases decide (i < Int.ofNat (sp y.nm + sz y.nm)) <;> rfl) (by
                intro c hc _
                exact v_val rfl)
            rw [hF, List.map_id] at this
            exact this
          have hFint : ∀ c ∈ F, ∃ i, c = .int i := fun c hc => hCint c (by rw [← hF] at hc; exact (List.mem_filter.mp hc).1)
          refine ⟨[.val (hostD bs), .val S, .val Pp, .val (nD k), .val b.d, .val (.lst C), .val (nD j), .val y.d, y8, .un], by subst hcc; rfl, rfl, [.val (hostD bs), .val S, .val Pp, .val (nD k), .val b.d, .val (.lst C), .val (nD j), .val y.d, .val (.lst F), .un], ⟨_, _, _, rfl⟩, ?_⟩
          have a2 : evS cc (.asg 8 (.comp [9] (.v 9) (.n 9) (.e (.v 5)) (.cons false (.cmp2 (.sub (.v 2) (.v 6)) .LtE (.v 9) .Lt (.bop .Add (.sub (.v 2) (.v 6)) (.sub (.v 1) (.v 6)))) .nil))) [.val (hostD bs), .val S, .val Pp, .val (nD k), .val b.d, .val (.lst C), .val (nD j), .val y.d, y8, .un] = .nx [.val (hostD bs), .val S, .val Pp, .val (nD k), .val b.d, .val (.lst C), .val (nD j), .val y.d, .val (.lst F), .un] := by
            rw [asg_of c1 (by subst hcc; rfl)]
            subst hcc; rfl
          have k1 : evE cc (.call 1000 (.cons false (.v 4) (.cons false (.v 7) .nil))) [.val (hostD bs), .val S, .val Pp, .val (nD k), .val b.d, .val (.lst C), .val (nD j), .val y.d, .val (.lst F), .un] = .ok (.bl (meet b y)) [.val (hostD bs), .val S, .val Pp, .val (nD k), .val b.d, .val (.lst C), .val (nD j), .val y.d, .val (.lst F), .un] := by
            subst hcc
            exact call_val (ds := [y.d]) (e1 := [.val (hostD bs), .val S, .val Pp, .val (nD k), .val b.d, .val (.lst C), .val (nD j), .val y.d, .val (.lst F), .un]) rfl (v_val rfl) (es_of (v_val rfl) es_end) (r1000 n b y)
          have k2 : evE cc (.cmp (.v 8) .NotEq (.lst .nil)) [.val (hostD bs), .val S, .val Pp, .val (nD k), .val b.d, .val (.lst C), .val (nD j), .val y.d, .val (.lst F), .un] = .ok (.bl (bad sz sp b.nm y.nm)) [.val (hostD bs), .val S, .val Pp, .val (nD k), .val b.d, .val (.lst C), .val (nD j), .val y.d, .val (.lst F), .un] := by
            refine cmp_of (y := .lst []) (v_val rfl) rfl ?_
            show (if ((Mi.D.lst F).fit deep && (Mi.D.lst []).fit deep) = true then some ((Mi.D.lst F).eqb (.lst [])) else none).map (!·) = _
            rw [if_pos]
            · show some (!((Mi.D.lst F).eqb (.lst []))) = some (bad sz sp b.nm y.nm)
              congr 1
              have hcell2 : F = [] ↔ bad sz sp b.nm y.nm = false := hcell
              cases hq : bad sz sp b.nm y.nm with
              | false => rw [hcell2.mpr hq]; rfl
              | true =>
                cases hF2 : F with
                | nil => rw [hcell2.mp hF2] at hq; cases hq
                | cons a r => rfl
            · rw [Bool.and_eq_true]
              refine ⟨?_, rfl⟩
              show F.all (·.fit 39) = true
              refine List.all_eq_true.mpr fun c hc => ?_
              obtain ⟨i, rfl⟩ := hFint c hc
              rfl
          have k3 := bool2 k1 k2
          show _ = if (!(meet b y && bad sz sp b.nm y.nm)) = true then _ else _
          cases hq : (meet b y && bad sz sp b.nm y.nm) with
          | true =>
            rw [hq] at k3
            rw [s_step a2, s_rt ((ife_t k3 rfl).trans (s_rt (ret_of ev_k (by subst hcc; rfl))))]
            rfl
          | false =>
            rw [hq] at k3
            rw [s_step a2, s_step (ife_f k3 rfl)]
            rfl)
      refine ⟨[.val (hostD bs), .val S, .val Pp, .val (nD k), .val b.d, .val (.lst (rngI (Int.ofNat (sp b.nm)) (Int.ofNat (sp b.nm + sz b.nm)))), y6, y7, y8, .un], ⟨_, _, _, _, _, _, rfl⟩, ?_⟩
      rw [s_step a1]
      show _ = if ((enumD 0 ((bs.take k).map Bf.d)).all (fun z => match z with | .tup [_, y] => (match bfOf y with | some y => !(meet b y && bad sz sp b.nm y.nm) | none => true) | _ => true)) = true then _ else _
      cases hq : (enumD 0 ((bs.take k).map Bf.d)).all (fun z => match z with | .tup [_, y] => (match bfOf y with | some y => !(meet b y && bad sz sp b.nm y.nm) | none => true) | _ => true) with
      | true =>
        rw [hq] at s2
        rw [s_step s2]
        rfl
      | false =>
        rw [hq] at s2
        rw [s_rt s2]
        rfl)
  refine ⟨(enumD 0 (bs.map Bf.d)).all (okAt bs sz sp), ?_, ?_⟩
  · rw [enum_all]
    have key : ∀ k b, bs[k]? = some b → (okAt bs sz sp (.tup [nD (0 + k), b.d]) = true ↔ ∀ y ∈ bs.take k, (meet b y && bad sz sp b.nm y.nm) = false) := by
      intro k b hk
      rw [Nat.zero_add]
      show ((enumD 0 ((bs.take k).map Bf.d)).all _ = true) ↔ _
      rw [enum_all]
      constructor
      · intro ha y hy
        obtain ⟨j, hj⟩ := List.getElem?_of_mem hy
        have : (!(meet b y && bad sz sp b.nm y.nm)) = true := ha j y hj
        cases hq : (meet b y && bad sz sp b.nm y.nm) with
        | false => rfl
        | true => rw [hq] at this; cases this
      · intro ha j y hj
        show (!(meet b y && bad sz sp b.nm y.nm)) = true
        rw [ha y (List.mem_of_getElem? hj)]; rfl
    have hnd := h.nodup
    constructor
    · intro ha x hx y hy hne hm
      obtain ⟨i, hi⟩ := List.getElem?_of_mem hx
      obtain ⟨j, hj⟩ := List.getElem?_of_mem hy
      rcases Nat.lt_trichotomy i j with hl | hl | hl
      · have := (key j y hj).mp (ha j y hj) x (List.mem_of_getElem? (i := i) (by rw [List.getElem?_take, if_pos hl]; exact hi))
        rw [meet_symm, hm, bad_symm] at this
        simpa using this
      · subst hl
        rw [hi] at hj
        cases hj
        exact absurd rfl hne
      · have := (key i x hi).mp (ha i x hi) y (List.mem_of_getElem? (i := j) (by rw [List.getElem?_take, if_pos hl]; exact hj))
        rw [hm] at this
        simpa using this
    · intro hf k b hk
      rw [key k b hk]
      intro y hy
      obtain ⟨j, hj⟩ := List.getElem?_of_mem hy
      rw [List.getElem?_take] at hj
      split at hj
      · rename_i hjk
        have hne : b.nm ≠ y.nm := by
          intro z
          have h1 : (bs.map (·.nm))[k]? = some b.nm := by rw [List.getElem?_map, hk]; rfl
          have h2 : (bs.map (·.nm))[j]? = some y.nm := by rw [List.getElem?_map, hj]; rfl
          have hk3 : k < (bs.map (·.nm)).length := by
            by_cases hq : k < (bs.map (·.nm)).length
            · exact hq
            · rw [List.getElem?_eq_none (by omega)] at h1; cases h1
          have := (List.getElem?_inj hk3 hnd).mp (by first | rw [h1, h2, z] | rw [h1, z, h2] | (rw [h1, z]; exact h2.symm) | exact h1.trans ((congrArg some z).trans h2.symm))
          omega
        cases hm : meet b y with
        | false => rfl
        | true => rw [hf b (List.mem_of_getElem? hk) y (List.mem_of_getElem? hj) hne hm]; rfl
      · cases hj
  · unfold b1005
    cases hq : (enumD 0 (bs.map Bf.d)).all (okAt bs sz sp) with
    | true =>
      rw [hq] at s1
      rw [s_step s1, s_rt (ret_of ev_k (by subst hcc; rfl))]
      rfl
    | false =>
      rw [hq] at s1
      rw [s_rt s1]
      rfl
end Lk55
end
section
namespace Lk55
open PySem L2 Mi
theorem mul_of (a b : Int) (h : a.natAbs.log2 + b.natAbs.log2 < 100000000) : bopD .Mult (.int a) (.int b) = some (.int (a * b)) := by
  show (if a.natAbs.log2 + b.natAbs.log2 < 100000000 then some (Mi.D.int (a * b)) else none) = _
  rw [if_pos h]
theorem law_box (n : Nat) (xs : List Int) (k : Nat) (d : Int) (hk : xs[k]? = some d) (hl : k ≤ 100) (hd : d.natAbs.log2 < 90000000) : ∃ p ps', Bx 0 p ∧ T.p.run (n + 1) 10 [.val (.lst (xs.map .int)), .val (nD k)] = .ok (.lst p) ps' := by
  rw [run_fn (fn := f10) rfl rfl rfl]
  generalize hcc : T.p.cfg (T.p.run n) f10 [.val (.lst (xs.map .int)), .val (nD k)] = cc
  show ∃ p ps', _ ∧ endF f10 (evSs cc b10 [.val (.lst (xs.map .int)), .val (nD k), .un]) = _
  have hkl : k < xs.length := by
    by_cases hq : k < xs.length
    · exact hq
    · rw [List.getElem?_eq_none (by omega)] at hk; cases hk
  generalize hX : Mi.D.lst (xs.map .int) = X
  have hsub : subD X (nD k) = some (.int d) := by
    rw [← hX]
    refine at_nat ?_
    rw [List.getElem?_map, hk]; rfl
  have hlen : biD .len [X] = some (.int xs.length) := by rw [← hX]; show some (Mi.D.int ((xs.map Mi.D.int).length : Int)) = _; rw [List.length_map]
  have t1 : evE cc (.cmp (.v 1) .Lt (.bi .len (.cons false (.v 0) .nil))) [.val X, .val (nD k), .un] = .ok (.bl true) [.val X, .val (nD k), .un] := by
    refine cmp_of (v_val rfl) (bi_of (v_val rfl) hlen) ?_
    show some (decide (Int.ofNat k < (xs.length : Int))) = _
    rw [decide_eq_true]
    simp
    exact hkl
  have s1 : evS cc (.asg 2 (.ite (.cmp (.v 1) .Lt (.bi .len (.cons false (.v 0) .nil))) (.sub (.v 0) (.v 1)) (.k (.int 0)))) [.val X, .val (nD k), .un] = .nx [.val X, .val (nD k), .val (.int d)] := by
    rw [asg_of (d := .int d) ((ite_t t1 rfl).trans (sub_of (v_val rfl) (v_val rfl) hsub)) (by subst hcc; rfl)]
    subst hcc; rfl
  generalize hA : (if d < 0 then -d else d) = A
  have hA0 : 0 ≤ A := by rw [← hA]; split <;> omega
  have a1 : evE cc (.bi .abs (.cons false (.v 2) .nil)) [.val X, .val (nD k), .val (.int d)] = .ok (.int A) [.val X, .val (nD k), .val (.int d)] := by
    rw [← hA]
    exact bi_of (v_val rfl) rfl
  have e18 : evE cc (.bop .Pow (.k (.int 10)) (.k (.int 18))) [.val X, .val (nD k), .val (.int d)] = .ok (.int 1000000000000000000) [.val X, .val (nD k), .val (.int d)] := by
    refine bop_of ev_k ev_k ?_
    first | rfl | decide | simp [bopD]
  have a2 : evE cc (.bi .int (.cons false (.cmp (.bi .abs (.cons false (.v 2) .nil)) .GtE (.bop .Pow (.k (.int 10)) (.k (.int 18)))) .nil)) [.val X, .val (nD k), .val (.int d)] = .ok (.int (if decide ((1000000000000000000 : Int) ≤ A) = true then 1 else 0)) [.val X, .val (nD k), .val (.int d)] :=
    bi_of (cmp_of a1 e18 rfl) rfl
  have a3 : ∃ a, 0 ≤ a ∧ evE cc (.bop .Mult (.bi .abs (.cons false (.v 2) .nil)) (.bi .int (.cons false (.cmp (.bi .abs (.cons false (.v 2) .nil)) .GtE (.bop .Pow (.k (.int 10)) (.k (.int 18)))) .nil))) [.val X, .val (nD k), .val (.int d)] = .ok (.int a) [.val X, .val (nD k), .val (.int d)] :=
    ⟨A * (if decide ((1000000000000000000 : Int) ≤ A) = true then 1 else 0), by split <;> omega, bop_of a1 a2 (mul_of _ _ (by
      have hA2 : A.natAbs = d.natAbs := by rw [← hA]; split <;> omega
      rw [hA2]
      have : (if decide ((1000000000000000000 : Int) ≤ A) = true then (1 : Int) else 0).natAbs.log2 = 0 := by split <;> rfl
      rw [this]
      omega))⟩
  obtain ⟨a, ha, a3⟩ := a3
  have b1 : evE cc (.bop .Add (.bop .Add (.bop .Mod (.bi .int (.cons false (.v 2) .nil)) (.k (.int 2305843009213693951))) (.bop .Mult (.k (.int 39373)) (.v 1))) (.k (.int 92955))) [.val X, .val (nD k), .val (.int d)] = .ok (.int (d % 2305843009213693951 + 39373 * Int.ofNat k + 92955)) [.val X, .val (nD k), .val (.int d)] := by
    refine bop_of (bop_of (d := .int (d % 2305843009213693951 + 39373 * Int.ofNat k)) (bop_of (d := .int (d % 2305843009213693951)) (bi_of (x := .int d) (v_val rfl) rfl) ev_k ?_) (bop_of (d := .int (39373 * Int.ofNat k)) ev_k (v_val rfl) (mul_of 39373 (Int.ofNat k) (by
      have h1 := log_lt (x := Int.ofNat k) (k := 7) (by show k < 2 ^ 7; omega) (by omega)
      have h2 := log_lt (x := 39373) (k := 16) (by decide) (by omega)
      omega))) rfl) ev_k rfl
    first | rfl | (simp [bopD, Int.fmod_eq_emod]; done) | (show some (Mi.D.int (Int.fmod d 2305843009213693951)) = _; rw [Int.fmod_eq_emod_of_nonneg _ (by omega)])
  have hb0 := Int.emod_nonneg d (show (2305843009213693951 : Int) ≠ 0 by omega)
  have hb1 := Int.emod_lt_of_pos d (show (0 : Int) < 2305843009213693951 by omega)
  refine ⟨[.int a, .int (d % 2305843009213693951 + 39373 * Int.ofNat k + 92955), .int 0], [.val X, .val (nD k)], ⟨a, _, 0, rfl, ha, ⟨?_, ?_⟩, by omega, by omega⟩, ?_⟩
  · have : (Int.ofNat k) = (k : Int) := rfl
    omega
  · have : (Int.ofNat k) = (k : Int) := rfl
    omega
  · have c1 : evE cc (.lst (.cons false (.bop .Mult (.bi .abs (.cons false (.v 2) .nil)) (.bi .int (.cons false (.cmp (.bi .abs (.cons false (.v 2) .nil)) .GtE (.bop .Pow (.k (.int 10)) (.k (.int 18)))) .nil))) (.cons false (.bop .Add (.bop .Add (.bop .Mod (.bi .int (.cons false (.v 2) .nil)) (.k (.int 2305843009213693951))) (.bop .Mult (.k (.int 39373)) (.v 1))) (.k (.int 92955))) (.cons false (.k (.int 0)) .nil)))) [.val X, .val (nD k), .val (.int d)] = .ok (.lst [.int a, .int (d % 2305843009213693951 + 39373 * Int.ofNat k + 92955), .int 0]) [.val X, .val (nD k), .val (.int d)] := by
      rw [ev_lst, es_of a3 (es_of b1 (es_of ev_k es_end)), ok_bind, if_pos (line_of (by simp))]
    unfold b10
    rw [s_step s1, s_rt (ret_own c1 (by subst hcc; rfl))]
    rfl
end Lk55
end
section
namespace Lk55
open PySem L2 Mi
theorem setI_ml {c : Cfg} {e e1 e2 : En} {i j : Nat} {x a : M} {d : Mi.D} {k : Int} {xs ys : List Mi.D} (h1 : evE c a e = .ok d e1) (h2 : gt e1 i = .ml xs) (h3 : evE c x e1 = .ok (.int k) e2) (h4 : gt e2 i = .ml ys) (h5 : ixN ys.length k = some j) : evS c (.setI i x a) e = .nx (e2.set i (.ml (ys.set j d))) := by
  rw [s_setI]
  unfold sSetI
  rw [h1, ok_fl, h2]
  simp only
  rw [h3, ok_fl, h4]
  simp only
  rw [h5]
  simp only
  rw [st_eq]
def enumI (n : Nat) : List Int → List Mi.D | [] => [] | z :: zs => .tup [nD n, .int z] :: enumI (n + 1) zs
theorem enum_int : ∀ (zs : List Int) (n : Nat), enumD n (zs.map .int) = enumI n zs
  | [], _ => rfl
  | z :: zs, n => by simp only [List.map_cons, enumD, enumI, enum_int zs (n + 1)]; rfl
theorem cells (n m : Nat) (hm : m ≤ 2000000) (ns : List Int) (hl : ns.length ≤ 63) (hz : ∀ z ∈ ns, z.natAbs < 2 ^ m) : ∃ (ys : List Int) (ps' : List P), 1 ≤ ys.length ∧ ys.length ≤ 3 ∧ (∀ y ∈ ys, y.natAbs < 2 ^ m * 4096) ∧ T.p.run (n + 1) 12 [.val (.scr (ns.map .int)), .val (.int 3)] = .ok (.lst (ys.map .int)) ps' := by
  rw [run_fn (fn := f12) rfl rfl rfl]
  generalize hcc : T.p.cfg (T.p.run n) f12 [.val (.scr (ns.map .int)), .val (.int 3)] = cc
  show ∃ ys ps', _ ∧ _ ∧ _ ∧ endF f12 (evSs cc b12 [.val (.scr (ns.map .int)), .val (.int 3), .un, .un, .un, .un]) = _
  have hB : 0 < 2 ^ m := Nat.two_pow_pos m
  generalize hBB : 2 ^ m = B at hB hz
  have hBl : ∀ x : Int, x.natAbs ≤ B * 4096 → x.natAbs.log2 < 3000000 := by
    intro x hx
    have : x.natAbs < 2 ^ (m + 13) := by
      rw [Nat.pow_add, hBB]
      have : (2 : Nat) ^ 13 = 8192 := by decide
      rw [this]
      omega
    have := log_lt this (by omega)
    omega
  -- the first three
  have c3 : cutD (ns.map Mi.D.int) none (some 3) = (ns.take 3).map .int := by
    unfold cutD HT.sIx
    simp
    try (rw [List.map_take])
  generalize hH : (if ns = [] then [0] else ns.take 3) = H
  have hH1 : 1 ≤ H.length ∧ H.length ≤ 3 := by
    rw [← hH]
    cases ns with
    | nil => simp
    | cons a r => simp; omega
  have hH2 : ∀ y ∈ H, y.natAbs ≤ B := by
    intro y hy
    rw [← hH] at hy
    split at hy
    · simp at hy; subst hy; simp
    · exact Nat.le_of_lt (hz y (List.mem_of_mem_take hy))
  have hH3 : 3 < ns.length → H.length = 3 := by
    intro h
    rw [← hH]
    cases ns with
    | nil => simp at h
    | cons a r => simp at h ⊢; omega
  have l1 : evE cc (.bi .list (.cons false (.sl (.v 0) .nil (.cons false (.v 1) .nil)) .nil)) [.val (.scr (ns.map .int)), .val (.int 3), .un, .un, .un, .un] = .ok (.lst ((ns.take 3).map .int)) [.val (.scr (ns.map .int)), .val (.int 3), .un, .un, .un, .un] := by
    refine bi_of (x := .lst ((ns.take 3).map .int)) ?_ rfl
    rw [ev_sl, v_val rfl, ok_bind, evs_nil, parts_nil, ok_bind, evs_cons, evs_nil, parts_one, v_val rfl, ok_bind]
    show (R.bind (lift (some (some 3)) _) _) = _
    rw [lift_some, ok_bind]
    show lift (some (Mi.D.lst (cutD (ns.map .int) none (some 3)))) _ = _
    rw [c3]; rfl
  have l2 : evE cc (.bool false (.cons false (.bi .list (.cons false (.sl (.v 0) .nil (.cons false (.v 1) .nil)) .nil)) (.cons false (.lst (.cons false (.k (.int 0)) .nil)) .nil))) [.val (.scr (ns.map .int)), .val (.int 3), .un, .un, .un, .un] = .ok (.lst (H.map .int)) [.val (.scr (ns.map .int)), .val (.int 3), .un, .un, .un, .un] := by
    rw [← hH]
    cases ns with
    | nil => rw [bool_go (a := false) (t := false) l1 rfl rfl, bool_last]; rfl
    | cons a r => rw [bool_stop (a := false) (t := true) l1 rfl (by simp), if_neg (by simp)]
  have s1 : evS cc (.asg 2 (.bool false (.cons false (.bi .list (.cons false (.sl (.v 0) .nil (.cons false (.v 1) .nil)) .nil)) (.cons false (.lst (.cons false (.k (.int 0)) .nil)) .nil)))) [.val (.scr (ns.map .int)), .val (.int 3), .un, .un, .un, .un] = .nx [.val (.scr (ns.map .int)), .val (.int 3), .ml (H.map .int), .un, .un, .un] := by
    rw [asg_of l2 (by subst hcc; rfl)]
    subst hcc; rfl
  have c63 : cutD (ns.map Mi.D.int) (some 3) (some 63) = (ns.drop 3).map .int := by
    unfold cutD HT.sIx
    simp
    by_cases h3 : 3 ≤ ns.length
    · rw [Nat.min_eq_left h3, Nat.min_eq_right (by omega), ← List.map_drop, List.take_of_length_le (by simp)]
    · rw [Nat.min_eq_right (a := 3) (b := ns.length) (by omega), List.drop_of_length_le (l := ns.map Mi.D.int) (i := ns.length) (by rw [List.length_map]; omega), List.take_nil]
      refine (List.drop_of_length_le (l := ns.map Mi.D.int) (i := 3) ?_).symm
      rw [List.length_map]; omega
  have i1 : evI cc (.enum (.sl (.v 0) (.cons false (.v 1) .nil) (.cons false (.k (.int 63)) .nil))) [.val (.scr (ns.map .int)), .val (.int 3), .ml (H.map .int), .un, .un, .un] = .ok (enumI 0 (ns.drop 3)) [.val (.scr (ns.map .int)), .val (.int 3), .ml (H.map .int), .un, .un, .un] := by
    rw [ei_enum, ev_sl, v_val rfl, ok_bind, evs_cons, evs_nil, parts_one, v_val rfl, ok_bind]
    show ((R.bind (lift (some (some 3)) _) _)).bind _ = _
    rw [lift_some, ok_bind, evs_cons, evs_nil, parts_one, ev_k, ok_bind]
    show ((R.bind (lift (some (some 63)) _) _)).bind _ = _
    rw [lift_some, ok_bind]
    show (lift (some (Mi.D.lst (cutD (ns.map .int) (some 3) (some 63)))) _).bind _ = _
    rw [c63, lift_some, ok_bind, ← enum_int]
    rfl
  obtain ⟨e4, s2, ys, k, r', x3, x4, x5, h1, h2, h3, h4, rfl⟩ := for_inv (c := cc) (tg := .t [3, 4]) (b := .cons (.asg 5 (.bop .Mod (.bi .int (.cons false (.v 3) .nil)) (.v 1))) (.cons (.setI 2 (.v 5) (.bop .Add (.bsub 2 (.v 5)) (.bop .Mult (.v 4) (.bop .Add (.v 3) (.k (.int 2)))))) .nil)) (e := [.val (.scr (ns.map .int)), .val (.int 3), .ml (H.map .int), .un, .un, .un])
    (I := fun r e => ∃ (ys : List Int) (k : Nat) (r' : List Int) (x3 x4 x5 : P), (r = enumI k r' ∧ ∀ z ∈ r', z ∈ ns) ∧ k + r'.length ≤ 60 ∧ ys.length = H.length ∧ ((r' ≠ [] → H.length = 3) ∧ ∀ y ∈ ys, y.natAbs ≤ B * (1 + 65 * k)) ∧ e = [.val (.scr (ns.map .int)), .val (.int 3), .ml (ys.map .int), x3, x4, x5]) i1
    ⟨H, 0, ns.drop 3, .un, .un, .un, ⟨rfl, fun z hz => List.mem_of_mem_drop hz⟩, by rw [List.length_drop]; omega, rfl, ⟨fun hne => hH3 (by
      by_cases hq : 3 < ns.length
      · exact hq
      · exact absurd (List.drop_of_length_le (by omega)) hne), fun y hy => by simpa using hH2 y hy⟩, rfl⟩ (by
      rintro x r e ⟨ys, k, r', x3, x4, x5, ⟨h1, h1b⟩, h2, h3, ⟨h4, h5⟩, rfl⟩
      cases r' with
      | nil => cases h1
      | cons z r' =>
        simp only [enumI, List.cons.injEq] at h1
        obtain ⟨rfl, rfl⟩ := h1
        rw [List.length_cons] at h2
        have hy3 : ys.length = 3 := by rw [h3]; exact h4 (by simp)
        have hj : k % 3 < ys.length := by rw [hy3]; omega
        have hzb := hz z (h1b z List.mem_cons_self)
        refine ⟨[.val (.scr (ns.map .int)), .val (.int 3), .ml (ys.map .int), .val (nD k), .val (.int z), x5], by subst hcc; rfl, rfl, ?_⟩
        have a1 : evS cc (.asg 5 (.bop .Mod (.bi .int (.cons false (.v 3) .nil)) (.v 1))) [.val (.scr (ns.map .int)), .val (.int 3), .ml (ys.map .int), .val (nD k), .val (.int z), x5] = .nx [.val (.scr (ns.map .int)), .val (.int 3), .ml (ys.map .int), .val (nD k), .val (.int z), .val (nD (k % 3))] := by
          rw [asg_of (d := nD (k % 3)) (bop_of (bi_of (x := nD k) (d := nD k) (v_val rfl) rfl) (v_val rfl) rfl) (by subst hcc; rfl)]
          subst hcc; rfl
        have g0 : (ys.map Mi.D.int)[k % 3]? = some (.int ys[k % 3]) := by rw [List.getElem?_map, List.getElem?_eq_getElem hj]; rfl
        have hk2 : ((nD k) = .int (Int.ofNat k)) := rfl
        have a2 : evE cc (.bop .Add (.bsub 2 (.v 5)) (.bop .Mult (.v 4) (.bop .Add (.v 3) (.k (.int 2))))) [.val (.scr (ns.map .int)), .val (.int 3), .ml (ys.map .int), .val (nD k), .val (.int z), .val (nD (k % 3))] = .ok (.int (ys[k % 3] + z * (Int.ofNat k + 2))) [.val (.scr (ns.map .int)), .val (.int 3), .ml (ys.map .int), .val (nD k), .val (.int z), .val (nD (k % 3))] := by
          refine bop_of (x := .int ys[k % 3]) (y := .int (z * (Int.ofNat k + 2))) (bsub_of (x0 := .lst (ys.map .int)) (x := .lst (ys.map .int)) (y := nD (k % 3)) rfl (v_val rfl) rfl (at_nat g0)) (bop_of (x := .int z) (y := .int (Int.ofNat k + 2)) (v_val rfl) (bop_of (v_val rfl) ev_k rfl) (mul_of _ _ ?_)) rfl
          have q1 := hBl z (by omega)
          have q2 := log_lt (x := Int.ofNat k + 2) (k := 7) (by show (Int.ofNat (k + 2)).natAbs < 2 ^ 7; simp; omega) (by omega)
          omega
        refine ⟨[.val (.scr (ns.map .int)), .val (.int 3), .ml ((ys.set (k % 3) (ys[k % 3] + z * (Int.ofNat k + 2))).map .int), .val (nD k), .val (.int z), .val (nD (k % 3))], ?_, ys.set (k % 3) (ys[k % 3] + z * (Int.ofNat k + 2)), k + 1, r', _, _, _, ⟨rfl, fun w hw => h1b w (List.mem_cons_of_mem _ hw)⟩, by omega, by rw [List.length_set, h3], ⟨fun _ => h4 (by simp), ?_⟩, rfl⟩
        · rw [s_step a1, s_step (setI_ml (j := k % 3) a2 rfl (v_val (d := nD (k % 3)) rfl) rfl (ix_nat (by rw [List.length_map]; exact hj))), ← List.map_set]
          rfl
        · intro y hy
          have hmono : B * (1 + 65 * k) ≤ B * (1 + 65 * (k + 1)) := Nat.mul_le_mul_left _ (by omega)
          rcases List.mem_or_eq_of_mem_set hy with e | e
          · exact Nat.le_trans (h5 y e) hmono
          · subst e
            have q1 := h5 ys[k % 3] (List.getElem_mem hj)
            have q2 : (z * (Int.ofNat k + 2)).natAbs ≤ B * 65 := by
              rw [Int.natAbs_mul]
              have : (Int.ofNat k + 2).natAbs = k + 2 := by show (Int.ofNat (k + 2)).natAbs = _; rfl
              rw [this]
              exact Nat.mul_le_mul (by omega) (by omega)
            have q3 : B * (1 + 65 * (k + 1)) = B * (1 + 65 * k) + B * 65 := by rw [← Nat.mul_add]; congr 1
            rw [q3]
            exact Nat.le_trans (Int.natAbs_add_le _ _) (by omega))
  have hr0 : r' = [] := by cases r' with | nil => rfl | cons _ _ => cases h1.1
  subst hr0
  refine ⟨ys, [.val (.scr (ns.map .int)), .val (.int 3)], by omega, by omega, fun y hy => ?_, ?_⟩
  · have q1 := h4.2 y hy
    have q2 : B * (1 + 65 * k) ≤ B * 3901 := Nat.mul_le_mul_left _ (by simp at h2; omega)
    omega
  · unfold b12
    rw [s_step s1, s_step s2, s_rt (ret_of (v_ml rfl (by subst hcc; rfl)) (by subst hcc; rfl))]
    rfl
end Lk55
end
section
namespace Lk55
open PySem L2 Mi
theorem gt_other {e : En} {i j : Nat} {p : P} (h : i ≠ j) : gt (e.set i p) j = gt e j := by
  rw [get_gt, get_gt, List.getElem?_set_ne h]
theorem gt_same {e : En} {i : Nat} {p : P} (h : i < e.length) : gt (e.set i p) i = p := by
  rw [get_gt, List.getElem?_set_self h]; rfl
/-- the sums of spots and sizes, by their places -/
theorem sums {c : Cfg} {E : En} {bs : List Bf} {sz sp : Str → Nat} {it : Mi.It} (hb : bs.length ≤ 6) (hE : 17 < E.length) (g8 : gt E 8 = .val (.tup (valL bs sp))) (g2 : gt E 2 = .val (.tup (valL bs sz))) (hit : ∀ k, it ≠ .b k)
    (hi : evI c it E = .ok ((List.range bs.length).map fun i => .int (i : Nat)) E) (hp : (plainP (gt E 17) && !c.lent 17) = true) :
    evE c (.comp [17] (.bop .Add (.sub (.v 8) (.v 17)) (.sub (.v 2) (.v 17))) (.n 17) it .nil) E = .ok (.lst (bs.map fun b => nD (sp b.nm + sz b.nm))) E := by
  have h1 := comp_m (c := c) (i := 17) (elt := .bop .Add (.sub (.v 8) (.v 17)) (.sub (.v 2) (.v 17))) (it := it) (e := E) (e1 := E) (g := fun x => match x with | .int (.ofNat k) => (match bs[k]? with | some b => nD (sp b.nm + sz b.nm) | none => .non) | _ => .non) hit hi hp (line_of (by rw [List.length_map, List.length_range]; omega)) (by
    intro x hx
    obtain ⟨k, hk, rfl⟩ := List.mem_map.mp hx
    rw [List.mem_range] at hk
    have hk2 : bs[k]? = some bs[k] := List.getElem?_eq_getElem hk
    have e8 : gt (E.set 17 (.val (nD k))) 8 = .val (.tup (valL bs sp)) := by rw [gt_other (by decide), g8]
    have e2 : gt (E.set 17 (.val (nD k))) 2 = .val (.tup (valL bs sz)) := by rw [gt_other (by decide), g2]
    have e17 : gt (E.set 17 (.val (nD k))) 17 = .val (nD k) := gt_same hE
    have r := bop_of (c := c) (sub_of (v_val e8) (v_val e17) (sub_at sp hk2)) (sub_of (v_val e2) (v_val e17) (sub_at sz hk2)) (add_nD _ _)
    show evE c _ (E.set 17 (.val (nD k))) = .ok (match bs[k]? with | some b => nD (sp b.nm + sz b.nm) | none => .non) _
    rw [hk2]
    exact r)
  rw [h1]
  congr 2
  refine List.ext_getElem? fun j => ?_
  rw [List.getElem?_map, List.getElem?_map, List.getElem?_map]
  by_cases hj : j < bs.length
  · rw [List.getElem?_range hj, List.getElem?_eq_getElem hj]
    show some (match bs[j]? with | some b => nD (sp b.nm + sz b.nm) | none => .non) = _
    rw [List.getElem?_eq_getElem hj]; rfl
  · rw [List.getElem?_eq_none (by simp; omega), List.getElem?_eq_none (l := bs) (by omega)]; rfl
/-- the greatest of them -/
theorem max_sums {bs : List Bf} (h0 : bs ≠ []) (sz sp : Str → Nat) : biD .max1 [.lst (bs.map fun b => nD (sp b.nm + sz b.nm))] = some (.int (mx (hgtL bs sz sp))) := by
  show (match intsD (bs.map fun b => Mi.D.int (Int.ofNat (sp b.nm + sz b.nm))) with | some (n :: ns) => some (Mi.D.int (maxI n ns)) | _ => none) = _
  rw [ints_map (fun b : Bf => sp b.nm + sz b.nm)]
  unfold hgtL
  cases bs with
  | nil => exact absurd rfl h0
  | cons b bs => rfl
/-- no pair of the order is broken -/
theorem clear {c : Cfg} {E : En} {bs : List Bf} (h : Host bs) {en sp : Str → Nat} {ps : List (Str × Str)} (hp : ps.length ≤ 100) (hm : ∀ q ∈ ps, q.1 ∈ bs.map (·.nm) ∧ q.2 ∈ bs.map (·.nm)) (hE : 18 < E.length) (g5 : gt E 5 = .val (orderD ps)) (g10 : gt E 10 = .val (.dct (valK bs sp))) (g11 : gt E 11 = .val (.dct (valK bs en))) (hpl : (plainP (gt E 18) && !c.lent 18) = true) :
    evE c (.cmp (.comp [18] (.v 18) (.n 18) (.e (.v 5)) (.cons false (.cmp (.sub (.v 11) (.sub (.v 18) (.k (.int 0)))) .Gt (.sub (.v 10) (.sub (.v 18) (.k (.int 1))))) .nil)) .Eq (.lst .nil)) E = .ok (.bl (ps.all fun q => decide (en q.1 ≤ sp q.2))) E := by
  have h1 := comp_fm (c := c) (i := 18) (elt := .v 18) (it := .e (.v 5)) (ifs := .cons false (.cmp (.sub (.v 11) (.sub (.v 18) (.k (.int 0)))) .Gt (.sub (.v 10) (.sub (.v 18) (.k (.int 1))))) .nil) (xs := ps.map pairD) (e := E) (e1 := E) (g := id) (p := fun x => match x with | .tup [.str a, .str b] => decide (sp b < en a) | _ => false) (fun k => by simp) (by rw [ei_e, v_val g5, ok_bind]; rfl) hpl (line_of (by rw [List.length_map]; omega)) (by
    intro x hx
    obtain ⟨q, hq, rfl⟩ := List.mem_map.mp hx
    obtain ⟨m1, m2⟩ := hm q hq
    have e10 : gt (E.set 18 (.val (pairD q))) 10 = .val (.dct (valK bs sp)) := by rw [gt_other (by decide), g10]
    have e11 : gt (E.set 18 (.val (pairD q))) 11 = .val (.dct (valK bs en)) := by rw [gt_other (by decide), g11]
    have e18 : gt (E.set 18 (.val (pairD q))) 18 = .val (pairD q) := gt_same hE
    have r := cmp_of (c := c) (sub_of (v_val e11) (sub_of (d := .str q.1) (v_val e18) (ev_k (d := .int 0)) rfl) (sub_val h.nodup en m1)) (sub_of (v_val e10) (sub_of (d := .str q.2) (v_val e18) (ev_k (d := .int 1)) rfl) (sub_val h.nodup sp m2)) (gt_nD _ _)
    rw [evs_cons, ts_cons, r, ok_bind]
    show (lift (some (decide (sp q.2 < en q.1))) _).bind _ = R.ok (decide (sp q.2 < en q.1)) _
    rw [lift_some, ok_bind]
    cases decide (sp q.2 < en q.1) <;> rfl) (by
    intro x hx _
    exact v_val (gt_same hE))
  rw [List.map_id] at h1
  refine cmp_of h1 (y := .lst []) rfl ?_
  rw [List.filter_map]
  generalize hF : ps.filter ((fun x => match x with | .tup [.str a, .str b] => decide (sp b < en a) | _ => false) ∘ pairD) = F
  show (if ((Mi.D.lst (F.map pairD)).fit deep && (Mi.D.lst []).fit deep) = true then some ((Mi.D.lst (F.map pairD)).eqb (.lst [])) else none) = _
  rw [if_pos]
  · congr 1
    have hF2 : F = ps.filter fun q => decide (sp q.2 < en q.1) := hF.symm
    have hiff : F = [] ↔ (ps.all fun q => decide (en q.1 ≤ sp q.2)) = true := by
      rw [hF2, List.filter_eq_nil_iff, List.all_eq_true]
      constructor
      · intro ha q hq
        have := ha q hq
        simp at this
        simpa using this
      · intro ha q hq
        have := ha q hq
        simp at this
        simpa using this
    cases hq : ps.all fun q => decide (en q.1 ≤ sp q.2) with
    | true => rw [hiff.mpr hq]; rfl
    | false =>
      cases hF3 : F with
      | nil => rw [hiff.mp hF3] at hq; cases hq
      | cons a r => rfl
  · rw [Bool.and_eq_true]
    refine ⟨?_, rfl⟩
    show (F.map pairD).all (·.fit 39) = true
    rw [List.all_map]
    exact List.all_eq_true.mpr fun b _ => rfl
end Lk55
namespace Lk55
open PySem L2 Mi
/-- a dict of names and values -/
theorem zip_val {bs : List Bf} (h : Host bs) (f : Str → Nat) (t1 t2 : Bool) : pxD .dzip [seqT t1 (nmL bs), seqT t2 (valL bs f)] = some (.dct (valK bs f)) := by
  have e1 : (zipKs (nmL bs) (valL bs f)).map (fun kvs => Mi.D.dct (putAllD [] kvs)) = some (.dct (valK bs f)) := by
    rw [zipK_val]
    show some (Mi.D.dct (putAllD [] (valK bs f))) = _
    rw [putAll_new (valK bs f) [] (by rw [List.nil_append, valK_keys]; exact rows_nodup h.nodup)]
    rfl
  cases t1 <;> cases t2 <;> exact e1
/-- the answers of the law and of the program are the same -/
theorem both_free {bs : List Bf} (h : Host bs) (sz sp : Str → Nat) {t : Bool} (ht : t = true ↔ Free bs sz sp) : ((meetL bs).all fun q => !bad sz sp q.1 q.2) = t := by
  have := free_meets h sz sp
  cases hq : (meetL bs).all fun q => !bad sz sp q.1 q.2 with
  | true => rw [hq] at this; exact (ht.mpr (this.mp rfl)).symm
  | false =>
    cases t with
    | false => rfl
    | true => rw [hq] at this; exact absurd (this.mpr (ht.mp rfl)) (by simp)
end Lk55
end
section
namespace Lk55
open PySem L2 Mi
/-- what is to be shown of 1006 -/
def CaseOk (n : Nat) : Prop := ∀ (N : Int) (p : List Mi.D) (bs : List Bf), Bx N p → N < 2 ^ 45 → Host bs → bs ≠ [] → ∃ p' : List Mi.D, Bx (N + 1000) p' ∧ T.p.run n 1006 [.ml p, .val (hostD bs)] = .ok (.bl true) [.ml p', .val (hostD bs)]
theorem law_right (n : Nat) (hc : CaseOk (n + 4)) (p : List Mi.D) (hp : Bx 0 p) : ∃ ps', T.p.run (n + 5) 1008 [.ml p] = .ok (.bl true) ps' := by
  rw [run_fn (fn := f1008) rfl rfl rfl]
  generalize hcc : T.p.cfg (T.p.run (n + 4)) f1008 [.ml p] = cc
  show ∃ ps', endF f1008 (evSs cc b1008 [.ml p, .un]) = _
  have i1 : evI cc (.rng (.cons false (.k (.int 10)) .nil)) [.ml p, .un] = .ok ((List.range 10).map fun i => .int (i : Nat)) [.ml p, .un] := by
    rw [ei_rng, es_of ev_k es_end, ok_bind]
    rfl
  obtain ⟨ds, e', h1, l, r', p', h2, h3, h4, h5, h6⟩ := comp_inv (c := cc) (own := [1]) (tg := .n 1) (elt := .call 1006 (.cons false (.v 0) (.cons false (.call 1001 (.cons false (.v 0) (.cons false (.k (.int 6)) .nil))) .nil))) (ifs := .nil) (e := [.ml p, .un]) (e1 := [.ml p, .un])
    (I := fun r ds e => ∃ (l r' : List Mi.D) (p' : List Mi.D), ((List.range 10).map fun i => Mi.D.int (i : Nat)) = l ++ r' ∧ r = r' ∧ ds = l.map (fun _ => .bl true) ∧ Bx (2000 * l.length) p' ∧ e = [.ml p', .un]) (fun k => by simp) i1 (by subst hcc; rfl) (line_of (by simp)) ⟨[], _, p, rfl, rfl, rfl, hp.mono (by simp), rfl⟩ (by
      rintro x r ds e ⟨l, r', p', h2, rfl, rfl, h5, rfl⟩
      have hl : l.length < 10 := by
        have := congrArg List.length h2
        simp at this
        omega
      obtain ⟨bs, p2, g1, g2, _, g3, g4⟩ := law_host h5 (by omega) (n + 1)
      obtain ⟨p3, g5, g6⟩ := hc _ p2 bs g3 (by omega) g1 g2
      refine ⟨[.ml p', .val x], true, [.ml p', .val x], rfl, rfl, .inr ⟨rfl, .bl true, [.ml p3, .val x], ?_, l ++ [x], r, p3, by rw [h2]; simp, rfl, by simp, g5.mono (by simp; omega), rfl⟩⟩
      have c1 : evE cc (.call 1001 (.cons false (.v 0) (.cons false (.k (.int 6)) .nil))) [.ml p', .val x] = .ok (hostD bs) [.ml p2, .val x] := by
        subst hcc
        exact call_lend (ds := [.int 6]) (e1 := [.ml p', .val x]) rfl rfl (es_of ev_k es_end) rfl g4 rfl
      have hio : cc.io 1006 = true := by subst hcc; rfl
      refine call_lend (c := cc) (ds := [hostD bs]) (e1 := [.ml p2, .val x]) hio rfl (es_of c1 es_end) rfl (ps' := [.ml p3, .val (hostD bs)]) ?_ rfl
      subst hcc
      exact g6)
  subst h3
  rw [List.append_nil] at h2
  have hall : biD .all [.lst ds] = some (.bl true) := by
    rw [h4]
    have := all_map (fun _ : Mi.D => true) l
    rw [this]
    simp
  unfold b1008
  rw [s_rt (ret_of (bi_of h1 hall) (by subst hcc; rfl))]
  exact ⟨_, rfl⟩
end Lk55
end
section
namespace Lk55
open PySem L2 Mi
theorem bits_lt (m : Nat) (z : Int) (h : PySem.Builtin.Int.intBits z ≤ m) : z.natAbs < 2 ^ m := by
  unfold PySem.Builtin.Int.intBits at h
  by_cases h0 : z = 0
  · subst h0; exact Nat.two_pow_pos m
  · rw [if_neg (by simpa using h0)] at h
    exact (Nat.log2_lt (by omega)).mp (by omega)
theorem law_m (hc : CaseOk 18) (m : Nat) (hm : m ≤ 2000000) (ns : List Int) (hl : ns.length ≤ 63) (hz : ∀ z ∈ ns, PySem.Builtin.Int.intBits z ≤ m) : ∃ ps, T.p.run 20 9 [.val (.scr (ns.map Mi.D.int))] = .ok (.bl true) ps := by
  obtain ⟨ys, ps1, y1, y2, y3, r1⟩ := cells 18 m hm ns hl fun z hh => bits_lt m z (hz z hh)
  have hd : ∀ y ∈ ys, y.natAbs.log2 < 90000000 := by
    intro y hy
    have h1 := y3 y hy
    have : y.natAbs < 2 ^ (m + 12) := by
      rw [Nat.pow_add]
      have : (2 : Nat) ^ 12 = 4096 := by decide
      rw [this]
      exact h1
    have := log_lt this (by omega)
    omega
  clear y3
  rw [run_fn (fn := f9) rfl rfl rfl]
  generalize hcc : T.p.cfg (T.p.run 19) f9 [.val (.scr (ns.map Mi.D.int))] = cc
  show ∃ ps, endF f9 (evSs cc b9 [.val (.scr (ns.map Mi.D.int)), .un, .un]) = _
  generalize hX : Mi.D.scr (ns.map Mi.D.int) = X
  have s1 : evS cc (.asg 1 (.call 12 (.cons false (.v 0) (.cons false (.k (.int 3)) .nil)))) [.val X, .un, .un] = .nx [.val X, .val (.lst (ys.map .int)), .un] := by
    have k1 : evE cc (.call 12 (.cons false (.v 0) (.cons false (.k (.int 3)) .nil))) [.val X, .un, .un] = .ok (.lst (ys.map .int)) [.val X, .un, .un] := by
      subst hcc hX
      exact call_val (ds := [.int 3]) (e1 := [.val (.scr (ns.map Mi.D.int)), .un, .un]) rfl (v_val rfl) (es_of ev_k es_end) r1
    rw [asg_of k1 (by subst hcc; rfl)]
    subst hcc; rfl
  have c1 : evE cc (.call 1007 .nil) [.val X, .val (.lst (ys.map .int)), .un] = .ok (.bl true) [.val X, .val (.lst (ys.map .int)), .un] := by
    have h7 := hand 7
    rw [ev_call]
    subst hcc
    show doCall _ 1007 [] none _ = _
    unfold doCall
    rw [show (T.p.cfg (T.p.run 19) f9 [.val (.scr (ns.map Mi.D.int))]).cf 1007 [] = .ok (.bl true) [] from h7]
    rfl
  have i1 : evI cc (.rng (.cons false (.bi .len (.cons false (.v 1) .nil)) .nil)) [.val X, .val (.lst (ys.map .int)), .un] = .ok ((List.range ys.length).map fun i => .int (i : Nat)) [.val X, .val (.lst (ys.map .int)), .un] := by
    rw [ei_rng, es_of (bi_of (x := .lst (ys.map .int)) (d := .int (ys.length : Int)) (v_val rfl) (by show some (Mi.D.int ((ys.map Mi.D.int).length : Int)) = _; rw [List.length_map])) es_end, ok_bind]
    have hb : -big ≤ (ys.length : Int) ∧ (ys.length : Int) < big := by unfold big; omega
    show lift (if -big ≤ (ys.length : Int) ∧ (ys.length : Int) < big then some ((List.range (ys.length : Int).toNat).map fun i => Mi.D.int (i : Nat)) else none) _ = _
    rw [if_pos hb]
    rfl
  have c2 := comp_m (c := cc) (i := 2) (elt := .call 1008 (.cons false (.call 10 (.cons false (.v 1) (.cons false (.v 2) .nil))) .nil)) (it := .rng (.cons false (.bi .len (.cons false (.v 1) .nil)) .nil)) (g := fun _ => .bl true) (e := [.val X, .val (.lst (ys.map .int)), .un]) (e1 := [.val X, .val (.lst (ys.map .int)), .un]) (fun k => by simp) i1 (by subst hcc; rfl) (line_of (by rw [List.length_map, List.length_range]; omega)) (by
    intro x hx
    obtain ⟨k, hk, rfl⟩ := List.mem_map.mp hx
    rw [List.mem_range] at hk
    have hy : ys[k]? = some ys[k] := List.getElem?_eq_getElem hk
    obtain ⟨p, ps2, b1, b2⟩ := law_box 18 ys k ys[k] hy (by omega) (hd _ (List.getElem_mem hk))
    obtain ⟨ps3, b3⟩ := law_right 14 hc p b1
    have k1 : evE cc (.call 10 (.cons false (.v 1) (.cons false (.v 2) .nil))) [.val X, .val (.lst (ys.map .int)), .val (nD k)] = .ok (.lst p) [.val X, .val (.lst (ys.map .int)), .val (nD k)] := by
      subst hcc
      exact call_val (ds := [nD k]) (e1 := [.val X, .val (.lst (ys.map .int)), .val (nD k)]) rfl (v_val rfl) (es_of (v_val rfl) es_end) b2
    show evE cc _ [.val X, .val (.lst (ys.map .int)), .val (nD k)] = .ok (.bl true) [.val X, .val (.lst (ys.map .int)), .val (nD k)]
    refine call_new (c := cc) (ds := []) (e1 := [.val X, .val (.lst (ys.map .int)), .val (nD k)]) (by subst hcc; rfl) (by subst hcc; rfl) (by subst hcc; rfl) k1 es_end (ps' := ps3) ?_
    subst hcc
    exact b3)
  have c3 : evE cc (.bi .all (.cons false (.comp [2] (.call 1008 (.cons false (.call 10 (.cons false (.v 1) (.cons false (.v 2) .nil))) .nil)) (.n 2) (.rng (.cons false (.bi .len (.cons false (.v 1) .nil)) .nil)) .nil) .nil)) [.val X, .val (.lst (ys.map .int)), .un] = .ok (.bl true) [.val X, .val (.lst (ys.map .int)), .un] := by
    refine bi_of c2 ?_
    have := all_map (fun _ : Mi.D => true) ((List.range ys.length).map fun i => Mi.D.int (i : Nat))
    rw [this]
    simp
  have c4 := bool2 c1 c3
  unfold b9
  rw [s_step s1, s_rt (ret_of c4 (by subst hcc; rfl))]
  exact ⟨_, rfl⟩
theorem law_of_case (hc : CaseOk 18) : ∀ ns : List Int, ns.length ≤ 63 → (∀ z ∈ ns, PySem.Builtin.Int.intBits z ≤ 1048576) → ∃ ps, T.p.run 20 9 [.val (.scr (ns.map Mi.D.int))] = .ok (.bl true) ps :=
  fun ns hl hz => law_m hc 1048576 (by omega) ns hl hz
end Lk55
end
section
namespace Lk55
open PySem L2 Mi
/-- the nine that are no placing -/
def nine (bs : List Bf) (sp : Str → Nat) : List Mi.D := [.lst (valL bs sp), .tup (valL bs sp ++ [.int 0]), .tup ((valL bs sp).drop 1), .tup ((valL bs sp).dropLast ++ [.int (-1)]), .tup ((valL bs sp).dropLast ++ [.bl false]), .tup ((valL bs sp).dropLast ++ [.non]), .non, .tup [.tup (valL bs sp)], .str "0"]
theorem isDat_val {bs : List Bf} {sp : Str → Nat} : ∀ x ∈ valL bs sp, isDat x = true := by
  intro x hx
  obtain ⟨b, _, rfl⟩ := List.mem_map.mp hx
  rfl
theorem len_val (bs : List Bf) (sp : Str → Nat) : (valL bs sp).length = bs.length := by unfold valL; rw [List.length_map]
theorem nine_dat {bs : List Bf} (hb : bs.length ≤ 6) (sp : Str → Nat) : ∀ v ∈ nine bs sp, isDat v = true ∧ ∀ xs, v = .tup xs → xs.length ≤ 100 ∧ ∀ x ∈ xs, isDat x = true := by
  intro v hv
  have hl := len_val bs sp
  simp only [nine, List.mem_cons, List.not_mem_nil, or_false] at hv
  rcases hv with e | e | e | e | e | e | e | e | e <;> subst e <;> refine ⟨rfl, fun xs he => ?_⟩ <;> cases he
  · exact ⟨by simp; omega, fun x hx => by rcases List.mem_append.mp hx with e | e; exact isDat_val x e; simp at e; subst e; rfl⟩
  · exact ⟨by simp; omega, fun x hx => isDat_val x (List.mem_of_mem_drop hx)⟩
  · exact ⟨by simp; omega, fun x hx => by rcases List.mem_append.mp hx with e | e; exact isDat_val x (List.dropLast_subset _ e); simp at e; subst e; rfl⟩
  · exact ⟨by simp; omega, fun x hx => by rcases List.mem_append.mp hx with e | e; exact isDat_val x (List.dropLast_subset _ e); simp at e; subst e; rfl⟩
  · exact ⟨by simp; omega, fun x hx => by rcases List.mem_append.mp hx with e | e; exact isDat_val x (List.dropLast_subset _ e); simp at e; subst e; rfl⟩
  · exact ⟨by simp, fun x hx => by simp at hx; subst hx; rfl⟩
theorem nine_no {bs : List Bf} (h0 : bs ≠ []) (sp : Str → Nat) : ∀ v ∈ nine bs sp, okSizes bs v = false := by
  intro v hv
  have hl := len_val bs sp
  have hp : 0 < bs.length := List.length_pos_iff.mpr h0
  simp only [nine, List.mem_cons, List.not_mem_nil, or_false] at hv
  rcases hv with e | e | e | e | e | e | e | e | e <;> subst e
  · rfl
  · unfold okSizes; simp [hl]
  · unfold okSizes; simp [hl]; intro hz; omega
  · unfold okSizes; simp [isCount]
  · unfold okSizes; simp [isCount]
  · unfold okSizes; simp [isCount]
  · rfl
  · unfold okSizes; simp [isCount]
  · rfl
end Lk55
namespace Lk55
open PySem L2 Mi
theorem cut_last (xs : List Mi.D) : cutD xs none (some (-1)) = xs.dropLast := by
  unfold cutD HT.sIx
  simp [List.dropLast_eq_take]
  try omega
theorem cut_tail (xs : List Mi.D) (h : 1 ≤ xs.length) : cutD xs (some 1) none = xs.drop 1 := by
  unfold cutD HT.sIx
  simp [Nat.min_eq_left h]
  try exact List.take_of_length_le (by simp)
end Lk55
end
section
namespace Lk55
open PySem L2 Mi
def tl3 : Ss → Ss | .cons _ (.cons _ (.cons _ r)) => r | r => r
/-- the head of 1006: plan, order, sizes, tags -/
theorem case_head (n : Nat) {N : Int} {p : List Mi.D} {bs : List Bf} (hB : Bx N p) (hN : N < 2 ^ 46) (hh : Host bs) : ∃ ps sz p', Ord bs ps ∧ (∀ s, sz s ≤ 4) ∧ Bx (N + 12) p' ∧
    ∀ cc, T.p.cfg (T.p.run (n + 5)) f1006 [.ml p, .val (hostD bs)] = cc → evSs cc b1006 [.ml p, .val (hostD bs), .un, .un, .un, .un, .un, .un, .un, .un, .un, .un, .un, .un, .un, .un, .un, .un, .un] = evSs cc (tl3 b1006) [.ml p', .val (hostD bs), .val (.tup (valL bs sz)), .un, .val (planD bs), .val (orderD ps), .val (.lst (nmL bs)), .val (.lst (valL bs sz)), .un, .un, .un, .un, .un, .un, .un, .un, .un, .un, .un] := by
  obtain ⟨ps, p1, ho, hB1, r1⟩ := law_order hB (by omega) bs hh (n + 3)
  obtain ⟨sz, p2, hs4, hB2, r2⟩ := law_sizes hB1 (by omega) bs hh (n + 2)
  refine ⟨ps, sz, p2, ho, hs4, hB2.mono (by omega), fun cc hcc => ?_⟩
  have k1 : evE cc (.call 354 (.cons false (.v 1) .nil)) [.ml p, .val (hostD bs), .un, .un, .un, .un, .un, .un, .un, .un, .un, .un, .un, .un, .un, .un, .un, .un, .un] = .ok (planD bs) [.ml p, .val (hostD bs), .un, .un, .un, .un, .un, .un, .un, .un, .un, .un, .un, .un, .un, .un, .un, .un, .un] := by
    subst hcc
    exact call_val (ds := []) (e1 := [.ml p, .val (hostD bs), .un, .un, .un, .un, .un, .un, .un, .un, .un, .un, .un, .un, .un, .un, .un, .un, .un]) rfl (v_val rfl) es_end (plan_of n bs hh)
  have k2 : evE cc (.call 1002 (.cons false (.v 0) (.cons false (.v 1) .nil))) [.ml p, .val (hostD bs), .un, .un, .un, .un, .un, .un, .un, .un, .un, .un, .un, .un, .un, .un, .un, .un, .un] = .ok (orderD ps) [.ml p1, .val (hostD bs), .un, .un, .un, .un, .un, .un, .un, .un, .un, .un, .un, .un, .un, .un, .un, .un, .un] := by
    subst hcc
    exact call_lend (ds := [hostD bs]) (e1 := [.ml p, .val (hostD bs), .un, .un, .un, .un, .un, .un, .un, .un, .un, .un, .un, .un, .un, .un, .un, .un, .un]) rfl rfl (es_of (v_val rfl) es_end) rfl r1 rfl
  have s1 := asgP2 (c := cc) (i := 4) (j := 5) (es_of k1 (es_of k2 es_end)) (by subst hcc; rfl) (by subst hcc; rfl)
  have k3 : evE cc (.call 1004 (.cons false (.v 0) (.cons false (.v 1) (.cons false (.lst (.cons false (.k (.int 0)) (.cons false (.k (.int 1)) (.cons false (.k (.int 2)) (.cons false (.k (.int 4)) .nil))))) .nil)))) [.ml p1, .val (hostD bs), .un, .un, .val (planD bs), .val (orderD ps), .un, .un, .un, .un, .un, .un, .un, .un, .un, .un, .un, .un, .un] = .ok (.tup (valL bs sz)) [.ml p2, .val (hostD bs), .un, .un, .val (planD bs), .val (orderD ps), .un, .un, .un, .un, .un, .un, .un, .un, .un, .un, .un, .un, .un] := by
    subst hcc
    exact call_lend (ds := [hostD bs, .lst [.int 0, .int 1, .int 2, .int 4]]) (e1 := [.ml p1, .val (hostD bs), .un, .un, .val (planD bs), .val (orderD ps), .un, .un, .un, .un, .un, .un, .un, .un, .un, .un, .un, .un, .un]) rfl rfl (es_of (v_val rfl) (es_of rfl es_end)) rfl r2 rfl
  have s2 := asg_of (c := cc) (i := 2) k3 (by subst hcc; rfl)
  have k4 : evE cc (.call 1003 (.cons false (.v 1) .nil)) [.ml p2, .val (hostD bs), .val (.tup (valL bs sz)), .un, .val (planD bs), .val (orderD ps), .un, .un, .un, .un, .un, .un, .un, .un, .un, .un, .un, .un, .un] = .ok (.lst (nmL bs)) [.ml p2, .val (hostD bs), .val (.tup (valL bs sz)), .un, .val (planD bs), .val (orderD ps), .un, .un, .un, .un, .un, .un, .un, .un, .un, .un, .un, .un, .un] := by
    subst hcc
    exact call_val (ds := []) (e1 := [.ml p2, .val (hostD bs), .val (.tup (valL bs sz)), .un, .val (planD bs), .val (orderD ps), .un, .un, .un, .un, .un, .un, .un, .un, .un, .un, .un, .un, .un]) rfl (v_val rfl) es_end (r1003 (n + 4) bs hh.few)
  have s3 := asgP2 (c := cc) (i := 6) (j := 7) (es_of k4 (es_of (bi_of (b := .list) (x := .tup (valL bs sz)) (d := .lst (valL bs sz)) (v_val (i := 2) rfl) rfl) es_end)) (by subst hcc; rfl) (by subst hcc; rfl)
  unfold b1006
  rw [s_step s1]
  refine (s_step (e1 := [.ml p2, .val (hostD bs), .val (.tup (valL bs sz)), .un, .val (planD bs), .val (orderD ps), .un, .un, .un, .un, .un, .un, .un, .un, .un, .un, .un, .un, .un]) ?_).trans ((s_step (e1 := [.ml p2, .val (hostD bs), .val (.tup (valL bs sz)), .un, .val (planD bs), .val (orderD ps), .val (.lst (nmL bs)), .val (.lst (valL bs sz)), .un, .un, .un, .un, .un, .un, .un, .un, .un, .un, .un]) ?_).trans rfl)
  · refine Eq.trans ?_ (s2.trans ?_)
    · subst hcc; rfl
    · subst hcc; rfl
  · refine s3.trans ?_
    subst hcc; rfl
end Lk55
end
section
namespace Lk55
open PySem L2 Mi
/-- spots, drawn at will -/
theorem spots1 (n : Nat) {cc : Cfg} {N : Int} {p p0 : List Mi.D} {bs : List Bf} {rest : List P} (hcc : T.p.cfg (T.p.run (n + 5)) f1006 [.ml p0, .val (hostD bs)] = cc) (hB : Bx N p) (hN : N < 2 ^ 50) (hh : Host bs) (h1 : gt rest 0 = .val (hostD bs)) (hp : plainP (gt rest 15) = true) :
    ∃ sp p', (∀ s, sp s ≤ 9) ∧ Bx (N + 6) p' ∧ evE cc (.bi .tuple (.cons false (.comp [16] (.call 11 (.cons false (.v 0) (.cons false (.k (.int 10)) .nil))) (.n 16) (.e (.v 1)) .nil) .nil)) (.ml p :: rest) = .ok (.tup (valL bs sp)) (.ml p' :: rest) := by
  have hfew := hh.few
  obtain ⟨ks, p', h2, h3, h4, h5⟩ := comp_draw (c := cc) (j := 15) (K := 9) (elt := .call 11 (.cons false (.v 0) (.cons false (.k (.int 10)) .nil))) (it := .e (.v 1)) (xs := bs.map Bf.d) (rest := rest) (B := 2 ^ 55) (fun k => by simp) (by rw [ei_e, v_val (i := 1) (e := .ml p :: rest) (d := hostD bs) h1, ok_bind]; rfl) (by rw [hp]; subst hcc; rfl) (by rw [List.length_map]; omega) hB (by rw [List.length_map]; omega) (by
    intro x hx M p hM hM2
    obtain ⟨v, p2, v1, v2, v3, v4⟩ := take hM (by omega) (s := 10) (by decide) (by decide) (n + 4)
    obtain ⟨k, rfl⟩ : ∃ k : Nat, v = Int.ofNat k := ⟨v.toNat, by simp; omega⟩
    refine ⟨k, p2, by simp at v2; omega, v3, ?_⟩
    subst hcc
    exact call_lend (ds := [.int 10]) (e1 := .ml p :: rest.set 15 (.val x)) rfl rfl (es_of ev_k es_end) rfl v4 rfl)
  rw [List.length_map] at h2 h4
  obtain ⟨sp, hsp, hs9⟩ := fn_of 9 bs ks hh.nodup h2 h3
  rw [hsp] at h5
  exact ⟨sp, p', hs9, h4.mono (by omega), bi_of h5 rfl⟩
end Lk55
end
section
namespace Lk55
open PySem L2 Mi
/-- spots a little above the places -/
theorem spots2 (n : Nat) {cc : Cfg} {N : Int} {p p0 : List Mi.D} {bs : List Bf} {rest : List P} {sz : Str → Nat} {ps : List (Str × Str)} (hcc : T.p.cfg (T.p.run (n + 5)) f1006 [.ml p0, .val (hostD bs)] = cc) (hB : Bx N p) (hN : N < 2 ^ 50) (hh : Host bs) (hs4 : ∀ s, sz s ≤ 4) (ho : Ord bs ps)
    (h2 : gt rest 1 = .val (.tup (valL bs sz))) (h4 : gt rest 3 = .val (planD bs)) (h5 : gt rest 4 = .val (orderD ps)) (hp : plainP (gt rest 15) = true) (hlen : 15 < rest.length) :
    ∃ sp p', (∀ s, sp s ≤ 2000) ∧ Bx (N + 6) p' ∧ evE cc (.bi .tuple (.cons false (.comp [16] (.bop .Add (.v 16) (.call 11 (.cons false (.v 0) (.cons false (.k (.int 2)) .nil)))) (.n 16) (.e (.call 298 (.cons false (.v 4) (.cons false (.v 5) (.cons false (.v 2) .nil))))) .nil) .nil)) (.ml p :: rest) = .ok (.tup (valL bs sp)) (.ml p' :: rest) := by
  have hfew := hh.few
  have hm : ∀ q ∈ ps, q.1 ∈ bs.map (·.nm) ∧ q.2 ∈ bs.map (·.nm) := by
    intro q hq
    obtain ⟨a, ha, b, hb, rfl, _⟩ := ho.mem q hq
    exact ⟨List.mem_map_of_mem ha, List.mem_map_of_mem hb⟩
  obtain ⟨en, _, hE, hr⟩ := r298 (n + 1) bs hh sz 4 hs4 ps (by have := ho.few; omega) hm
  have hE2 : ∀ s, en s ≤ 900 := fun s => by
    have h1 := hE s
    have h3 : ps.length * bs.length ≤ 36 * 6 := Nat.mul_le_mul ho.few hfew
    omega
  have k1 : evE cc (.call 298 (.cons false (.v 4) (.cons false (.v 5) (.cons false (.v 2) .nil)))) (.ml p :: rest) = .ok (.tup (valL bs en)) (.ml p :: rest) := by
    subst hcc
    exact call_val (ds := [orderD ps, .tup (valL bs sz)]) (e1 := .ml p :: rest) rfl (v_val (i := 4) (e := .ml p :: rest) h4) (es_of (v_val (i := 5) (e := .ml p :: rest) h5) (es_of (v_val (i := 2) (e := .ml p :: rest) h2) es_end)) hr
  obtain ⟨ks, p', g2, g3, g4, g5⟩ := comp_draw (c := cc) (j := 15) (K := 2000) (elt := .bop .Add (.v 16) (.call 11 (.cons false (.v 0) (.cons false (.k (.int 2)) .nil)))) (it := .e (.call 298 (.cons false (.v 4) (.cons false (.v 5) (.cons false (.v 2) .nil))))) (xs := valL bs en) (rest := rest) (B := 2 ^ 55) (fun k => by simp) (by rw [ei_e, k1, ok_bind]; rfl) (by rw [hp]; subst hcc; rfl) (by rw [len_val]; omega) hB (by rw [len_val]; omega) (by
    intro x hx M p hM hM2
    obtain ⟨b, hb, rfl⟩ := List.mem_map.mp hx
    obtain ⟨v, p2, v1, v2, v3, v4⟩ := take hM (by omega) (s := 2) (by decide) (by decide) (n + 4)
    obtain ⟨k, rfl⟩ : ∃ k : Nat, v = Int.ofNat k := ⟨v.toNat, by simp; omega⟩
    have hb9 := hE2 b.nm
    refine ⟨en b.nm + k, p2, by simp at v2; omega, v3, ?_⟩
    have g16 : gt (.ml p :: rest.set 15 (.val (nD (en b.nm)))) 16 = .val (nD (en b.nm)) := gt_same (e := rest) (i := 15) hlen
    refine bop_of (x := nD (en b.nm)) (y := nD k) (v_val g16) ?_ (add_nD _ _)
    subst hcc
    exact call_lend (ds := [.int 2]) (e1 := .ml p :: rest.set 15 (.val (nD (en b.nm)))) rfl rfl (es_of ev_k es_end) rfl v4 rfl)
  rw [len_val] at g2 g4
  obtain ⟨sp, hsp, hs9⟩ := fn_of 2000 bs ks hh.nodup g2 g3
  rw [hsp] at g5
  exact ⟨sp, p', hs9, g4.mono (by omega), bi_of g5 rfl⟩
end Lk55
end
section
namespace Lk55
open PySem L2 Mi
theorem callk_of {c : Cfg} {e e1 : En} {f : Nat} {l : Ms} {ks : List Nat} {ds : List Mi.D} {ps ps' : List P} {d : Mi.D} (h : esC (evEs c l) e = .ok ds e1) (hp : pickK (vals ds) ks = some ps) (hc : c.cf f ps = .ok d ps') : evE c (.callk f l ks) e = .ok d e1 := by
  rw [ev_callk, h, ok_bind, hp]
  simp only
  unfold doCall
  rw [hc]
  rfl
theorem asg_v {c : Cfg} {e e1 e2 : En} {i : Nat} {a : M} {d : Mi.D} (h : evE c a e = .ok d e1) (hl : c.lent i = false) (hi : i < e1.length) (hm : c.mu i = false) (he : e1.set i (.val d) = e2) : evS c (.asg i a) e = .nx e2 := by
  rw [asg_of h (by unfold okS; rw [hl, decide_eq_true hi]; rfl)]
  unfold keepP
  rw [hm]
  show Fl.nx (e1.set i (.val d)) = _
  rw [he]
theorem rng_len {c : Cfg} {E : En} {i k : Nat} {d : Mi.D} (h : gt E i = .val d) (hb : biD .len [d] = some (.int (k : Int))) (hk : k ≤ 1000) : evI c (.rng (.cons false (.bi .len (.cons false (.v i) .nil)) .nil)) E = .ok ((List.range k).map fun i => .int (i : Nat)) E := by
  rw [ei_rng, es_of (bi_of (v_val h) hb) es_end, ok_bind]
  show lift (if -big ≤ (k : Int) ∧ (k : Int) < big then some ((List.range (k : Int).toNat).map fun i => Mi.D.int (i : Nat)) else none) E = _
  rw [if_pos ⟨by unfold big; omega, by unfold big; omega⟩]
  rfl
theorem lst_of {c : Cfg} {e e1 : En} {l : Ms} {ds : List Mi.D} (h : esC (evEs c l) e = .ok ds e1) (hl : ds.length ≤ 1000) : evE c (.lst l) e = .ok (.lst ds) e1 := by
  rw [ev_lst, h, ok_bind, if_pos (line_of (by omega))]
theorem tup_of {c : Cfg} {e e1 : En} {l : Ms} {ds : List Mi.D} (h : esC (evEs c l) e = .ok ds e1) (hl : ds.length ≤ 1000) : evE c (.tup l) e = .ok (.tup ds) e1 := by
  rw [ev_tup, h, ok_bind, if_pos (line_of (by omega))]
theorem add_tups {a b : List Mi.D} (h : a.length + b.length ≤ 1000) : bopD .Add (.tup a) (.tup b) = some (.tup (a ++ b)) := by
  show (if a.length + b.length ≤ sizeLine then some (Mi.D.tup (a ++ b)) else none) = _
  rw [if_pos (line_of (by omega))]
theorem add_lsts {a b : List Mi.D} (h : a.length + b.length ≤ 1000) : bopD .Add (.lst a) (.lst b) = some (.lst (a ++ b)) := by
  show (if a.length + b.length ≤ sizeLine then some (Mi.D.lst (a ++ b)) else none) = _
  rw [if_pos (line_of (by omega))]
theorem lt_ints (a b : Int) : cmpD .Lt (.int a) (.int b) = some (decide (a < b)) := by
  show (if ((Mi.D.int a).fit deep && (Mi.D.int b).fit deep && (Mi.D.int a).alk (.int b) && !(Mi.D.int a).isNon) = true then some ((Mi.D.int a).ltb (.int b)) else none) = _
  rw [if_pos (by rfl)]
  rfl
/-- 1006's slots -/
abbrev EE (p : List Mi.D) (bs : List Bf) (sz : Str → Nat) (ps : List (Str × Str)) (x3 x8 x9 x10 x11 x12 x13 x14 x15 : P) : En := [.ml p, .val (hostD bs), .val (.tup (valL bs sz)), x3, .val (planD bs), .val (orderD ps), .val (.lst (nmL bs)), .val (.lst (valL bs sz)), x8, x9, x10, x11, x12, x13, x14, x15, .un, .un, .un]
def dropS : Nat → Ss → Ss | 0, b => b | k + 1, .cons _ r => dropS k r | _, b => b
def forB : Ss → Ss | .cons (.for _ _ b) _ => b | b => b
def bdF : Ss := forB (tl3 b1006)
section
variable {n : Nat} {cc : Cfg} {p0 : List Mi.D} {bs : List Bf} {sz sp : Str → Nat} {ps : List (Str × Str)} {p : List Mi.D} {x3 x9 x10 x11 x12 x13 x14 x15 : P}
theorem lent6 {cc : Cfg} {cf : Nat → List P → R Mi.D} {q : List Mi.D} {d : Mi.D} (hcc : T.p.cfg cf f1006 [.ml q, .val d] = cc) {i : Nat} (hi : i ≠ 0) : cc.lent i = false := by
  subst hcc
  match i, hi with
  | 0, h => exact absurd rfl h
  | 1, _ => rfl
  | i + 2, _ =>
    show (isMl (gt [P.ml q, .val d] (i + 2)) && decide (i + 2 < 2)) = false
    rw [decide_eq_false (by omega), Bool.and_false]
theorem hm_of (ho : Ord bs ps) : ∀ q ∈ ps, q.1 ∈ bs.map (·.nm) ∧ q.2 ∈ bs.map (·.nm) := by
  intro q hq
  obtain ⟨a, ha, b, hb, rfl, _⟩ := ho.mem q hq
  exact ⟨List.mem_map_of_mem ha, List.mem_map_of_mem hb⟩
/-- height, the dicts, clear -/
theorem part1 (hcc : T.p.cfg (T.p.run (n + 5)) f1006 [.ml p0, .val (hostD bs)] = cc) (hh : Host bs) (h0 : bs ≠ []) (ho : Ord bs ps) :
    ∃ C : Bool, C = (ps.all fun q => decide (sp q.1 + sz q.1 ≤ sp q.2)) ∧ ∃ y10 y11, evSs cc (dropS 2 bdF) (EE p bs sz ps x3 (.val (.tup (valL bs sp))) x9 x10 x11 x12 x13 x14 x15) = evSs cc (dropS 6 bdF) (EE p bs sz ps x3 (.val (.tup (valL bs sp))) (.val (.int (mx (hgtL bs sz sp)))) y10 y11 (.val (.bl C)) x13 x14 x15) := by
  have hfew := hh.few
  refine ⟨_, rfl, .val (.dct (valK bs sp)), .val (.dct (valK bs fun s => sp s + sz s)), ?_⟩
  have hl : ∀ i, i ≠ 0 → cc.lent i = false := fun i hi => lent6 hcc hi
  have l1 : biD .len [hostD bs] = some (.int (bs.length : Int)) := by
    show some (Mi.D.int ((bs.map Bf.d).length : Int)) = _
    rw [List.length_map]
  have l6 : biD .len [.lst (nmL bs)] = some (.int (bs.length : Int)) := by
    show some (Mi.D.int ((nmL bs).length : Int)) = _
    unfold nmL
    rw [List.length_map]
  have k9 := bi_of (b := .max1) (sums (c := cc) (E := EE p bs sz ps x3 (.val (.tup (valL bs sp))) x9 x10 x11 x12 x13 x14 x15) (bs := bs) (sz := sz) (sp := sp) (it := .rng (.cons false (.bi .len (.cons false (.v 1) .nil)) .nil)) hfew (by simp) rfl rfl (fun k => by simp) (rng_len rfl l1 (by omega)) (by rw [hl _ (by decide)]; rfl)) (max_sums h0 sz sp)
  refine (s_step (asg_v k9 (hl _ (by decide)) (by simp) (by subst hcc; rfl) rfl)).trans ?_
  have k10 : evE cc (.px .dzip (.cons false (.v 6) (.cons false (.v 8) .nil))) (EE p bs sz ps x3 (.val (.tup (valL bs sp))) (.val (.int (mx (hgtL bs sz sp)))) x10 x11 x12 x13 x14 x15) = .ok (.dct (valK bs sp)) (EE p bs sz ps x3 (.val (.tup (valL bs sp))) (.val (.int (mx (hgtL bs sz sp)))) x10 x11 x12 x13 x14 x15) := px_of (es_of (v_val rfl) (es_of (v_val rfl) es_end)) (zip_val hh sp false true)
  refine (s_step (asg_v k10 (hl _ (by decide)) (by simp) (by subst hcc; rfl) rfl)).trans ?_
  have k11 := px_of (c := cc) (o := .dzip) (es_of (v_val (i := 6) (e := EE p bs sz ps x3 (.val (.tup (valL bs sp))) (.val (.int (mx (hgtL bs sz sp)))) (.val (.dct (valK bs sp))) x11 x12 x13 x14 x15) rfl) (es_of (sums (c := cc) (E := EE p bs sz ps x3 (.val (.tup (valL bs sp))) (.val (.int (mx (hgtL bs sz sp)))) (.val (.dct (valK bs sp))) x11 x12 x13 x14 x15) (bs := bs) (sz := sz) (sp := sp) (it := .rng (.cons false (.bi .len (.cons false (.v 6) .nil)) .nil)) hfew (by simp) rfl rfl (fun k => by simp) (rng_len rfl l6 (by omega)) (by rw [hl _ (by decide)]; rfl)) es_end)) (zip_val hh (fun s => sp s + sz s) false false)
  refine (s_step (asg_v k11 (hl _ (by decide)) (by simp) (by subst hcc; rfl) rfl)).trans ?_
  have k12 := clear (c := cc) (E := EE p bs sz ps x3 (.val (.tup (valL bs sp))) (.val (.int (mx (hgtL bs sz sp)))) (.val (.dct (valK bs sp))) (.val (.dct (valK bs fun s => sp s + sz s))) x12 x13 x14 x15) hh (en := fun s => sp s + sz s) (sp := sp) (by have := ho.few; omega) (hm_of ho) (by simp) rfl rfl rfl (by rw [hl _ (by decide)]; rfl)
  exact s_step (asg_v k12 (hl _ (by decide)) (by simp) (by subst hcc; rfl) rfl)
end
end Lk55
end
section
namespace Lk55
open PySem L2 Mi
section
variable {n : Nat} {cc : Cfg} {p0 : List Mi.D} {bs : List Bf} {sz sp : Str → Nat} {ps : List (Str × Str)} {p : List Mi.D} {x3 y10 y11 x12 x13 x14 x15 : P}
/-- what the program tells, six times over -/
theorem part2 (hcc : T.p.cfg (T.p.run (n + 5)) f1006 [.ml p0, .val (hostD bs)] = cc) (hh : Host bs) (h0 : bs ≠ []) (hs4 : ∀ s, sz s ≤ 4) (hs : ∀ s, sp s ≤ 2000) (ho : Ord bs ps) {C : Bool} (hC : C = (ps.all fun q => decide (sp q.1 + sz q.1 ≤ sp q.2))) :
    ∃ y13 y14, evSs cc (dropS 6 bdF) (EE p bs sz ps x3 (.val (.tup (valL bs sp))) (.val (.int (mx (hgtL bs sz sp)))) y10 y11 (.val (.bl C)) x13 x14 x15) = evSs cc (dropS 10 bdF) (EE p bs sz ps x3 (.val (.tup (valL bs sp))) (.val (.int (mx (hgtL bs sz sp)))) y10 y11 (.val (.bl C)) y13 y14 x15) := by
  have hfew := hh.few
  obtain ⟨t, ht, ri⟩ := law_is (n + 3) bs hh sz sp (fun b _ => by have := hs4 b.nm; have := hs b.nm; omega)
  have hB := both_free hh sz sp ht
  generalize hH : mx (hgtL bs sz sp) = H
  have hp100 : ps.length ≤ 100 := by have := ho.few; omega
  have r2a := r302 (n + 1) bs hh sz sp true
  have r2b := r302 (n + 1) bs hh sz sp false
  rw [hB] at r2a r2b
  have r9a := r299 (n + 4) bs hfew h0 sz sp true true
  have r9b := r299 (n + 4) bs hfew h0 sz sp false false
  rw [hH] at r9a r9b
  have r3a := r303 (n + 2) bs hh sz sp true true true ps hp100 (hm_of ho)
  have r3b := r303 (n + 2) bs hh sz sp false false false ps hp100 (hm_of ho)
  rw [← hC] at r3a r3b
  have r16a := r16 (n + 2) ps (by omega)
  obtain ⟨en, hbe, r0⟩ := r300 n bs hh h0 sz 4 hs4 ps hp100 (hm_of ho)
  have hgt := fun hx => hgt_mono sz en sp (hbe sp hx) bs
  refine ⟨.val (.lst (six t C H)), .val (.bl t), ?_⟩
  have hl : ∀ i, i ≠ 0 → cc.lent i = false := fun i hi => lent6 hcc hi
  have hcf : cc.cf = T.p.run (n + 5) := by subst hcc; rfl
  have i302 : cc.io 302 = false := by subst hcc; rfl
  have i299 : cc.io 299 = false := by subst hcc; rfl
  have i303 : cc.io 303 = false := by subst hcc; rfl
  have i300 : cc.io 300 = false := by subst hcc; rfl
  have i16 : cc.io 16 = false := by subst hcc; rfl
  have i15 : cc.io 15 = false := by subst hcc; rfl
  have i1005 : cc.io 1005 = false := by subst hcc; rfl
  generalize hE : EE p bs sz ps x3 (.val (.tup (valL bs sp))) (.val (.int H)) y10 y11 (.val (.bl C)) x13 x14 x15 = E
  have g1 : gt E 1 = .val (hostD bs) := by subst hE; rfl
  have g2 : gt E 2 = .val (.tup (valL bs sz)) := by subst hE; rfl
  have g4 : gt E 4 = .val (planD bs) := by subst hE; rfl
  have g5 : gt E 5 = .val (orderD ps) := by subst hE; rfl
  have g7 : gt E 7 = .val (.lst (valL bs sz)) := by subst hE; rfl
  have g8 : gt E 8 = .val (.tup (valL bs sp)) := by subst hE; rfl
  have l8 : evE cc (.bi .list (.cons false (.v 8) .nil)) E = .ok (.lst (valL bs sp)) E := bi_of (v_val g8) rfl
  have a1 : evE cc (.call 302 (.cons false (.v 4) (.cons false (.v 2) (.cons false (.v 8) .nil)))) E = .ok (.bl t) E := call_val i302 (v_val g4) (es_of (v_val g2) (es_of (v_val g8) es_end)) (by rw [hcf]; exact r2a)
  have a2 : evE cc (.callk 302 (.cons false (.v 8) (.cons false (.v 7) (.cons false (.v 4) .nil))) [2, 1, 0]) E = .ok (.bl t) E := callk_of (es_of (v_val g8) (es_of (v_val g7) (es_of (v_val g4) es_end))) rfl (by rw [hcf]; exact r2b)
  have a3 : evE cc (.call 299 (.cons false (.v 2) (.cons false (.v 8) .nil))) E = .ok (.int H) E := call_val i299 (v_val g2) (es_of (v_val g8) es_end) (by rw [hcf]; exact r9a)
  have a4 : evE cc (.callk 299 (.cons false (.bi .list (.cons false (.v 8) .nil)) (.cons false (.v 7) .nil)) [1, 0]) E = .ok (.int H) E := callk_of (es_of l8 (es_of (v_val g7) es_end)) rfl (by rw [hcf]; exact r9b)
  have k13 := lst_of (es_of a1 (es_of a2 (es_of a3 (es_of a4 es_end)))) (by simp)
  refine (s_step (asg_v (i := 13) (e2 := EE p bs sz ps x3 (.val (.tup (valL bs sp))) (.val (.int H)) y10 y11 (.val (.bl C)) (.val (.lst [.bl t, .bl t, .int H, .int H])) x14 x15) k13 (hl _ (by decide)) (by subst hE; simp) (by subst hcc; rfl) (by subst hE; rfl))).trans ?_
  clear k13 a1 a2 a3 a4 l8 g1 g2 g4 g5 g7 g8
  subst hE
  generalize hE : EE p bs sz ps x3 (.val (.tup (valL bs sp))) (.val (.int H)) y10 y11 (.val (.bl C)) (.val (.lst [.bl t, .bl t, .int H, .int H])) x14 x15 = E
  have g1 : gt E 1 = .val (hostD bs) := by subst hE; rfl
  have g2 : gt E 2 = .val (.tup (valL bs sz)) := by subst hE; rfl
  have g4 : gt E 4 = .val (planD bs) := by subst hE; rfl
  have g5 : gt E 5 = .val (orderD ps) := by subst hE; rfl
  have g7 : gt E 7 = .val (.lst (valL bs sz)) := by subst hE; rfl
  have g8 : gt E 8 = .val (.tup (valL bs sp)) := by subst hE; rfl
  have g13 : gt E 13 = .val (.lst [.bl t, .bl t, .int H, .int H]) := by subst hE; rfl
  have l8 : evE cc (.bi .list (.cons false (.v 8) .nil)) E = .ok (.lst (valL bs sp)) E := bi_of (v_val g8) rfl
  have l5 : evE cc (.call 16 (.cons false (.v 5) .nil)) E = .ok (seqT false (ps.map (pairT false))) E := call_val i16 (v_val g5) es_end (by rw [hcf]; exact r16a)
  have a1 : evE cc (.call 303 (.cons false (.v 4) (.cons false (.v 5) (.cons false (.v 2) (.cons false (.v 8) .nil))))) E = .ok (.bl C) E := call_val i303 (v_val g4) (es_of (v_val g5) (es_of (v_val g2) (es_of (v_val g8) es_end))) (by rw [hcf]; exact r3a)
  have a2 : evE cc (.callk 303 (.cons false (.bi .list (.cons false (.v 8) .nil)) (.cons false (.v 7) (.cons false (.call 16 (.cons false (.v 5) .nil)) (.cons false (.v 4) .nil)))) [3, 2, 1, 0]) E = .ok (.bl C) E := callk_of (es_of l8 (es_of (v_val g7) (es_of l5 (es_of (v_val g4) es_end)))) rfl (by rw [hcf]; exact r3b)
  have k13 := bop_of (o := .Add) (v_val g13) (lst_of (es_of a1 (es_of a2 es_end)) (by simp)) (add_lsts (a := [.bl t, .bl t, .int H, .int H]) (b := [.bl C, .bl C]) (by simp))
  refine (s_step (asg_v (i := 13) (e2 := EE p bs sz ps x3 (.val (.tup (valL bs sp))) (.val (.int H)) y10 y11 (.val (.bl C)) (.val (.lst (six t C H))) x14 x15) k13 (hl _ (by decide)) (by subst hE; simp) (by subst hcc; rfl) (by subst hE; rfl))).trans ?_
  clear k13 a1 a2 l8 l5 g1 g2 g4 g5 g7 g8 g13
  subst hE
  have k14 : evE cc (.call 1005 (.cons false (.v 1) (.cons false (.v 2) (.cons false (.v 8) .nil)))) (EE p bs sz ps x3 (.val (.tup (valL bs sp))) (.val (.int H)) y10 y11 (.val (.bl C)) (.val (.lst (six t C H))) x14 x15) = .ok (.bl t) (EE p bs sz ps x3 (.val (.tup (valL bs sp))) (.val (.int H)) y10 y11 (.val (.bl C)) (.val (.lst (six t C H))) x14 x15) := call_val i1005 (v_val rfl) (es_of (v_val rfl) (es_of (v_val rfl) es_end)) (by rw [hcf]; exact ri)
  refine (s_step (asg_v (i := 14) (e2 := EE p bs sz ps x3 (.val (.tup (valL bs sp))) (.val (.int H)) y10 y11 (.val (.bl C)) (.val (.lst (six t C H))) (.val (.bl t)) x15) k14 (hl _ (by decide)) (by simp) (by subst hcc; rfl) rfl)).trans ?_
  clear k14
  generalize hE : EE p bs sz ps x3 (.val (.tup (valL bs sp))) (.val (.int H)) y10 y11 (.val (.bl C)) (.val (.lst (six t C H))) (.val (.bl t)) x15 = E
  have g2 : gt E 2 = .val (.tup (valL bs sz)) := by subst hE; rfl
  have g4 : gt E 4 = .val (planD bs) := by subst hE; rfl
  have g5 : gt E 5 = .val (orderD ps) := by subst hE; rfl
  have g9 : gt E 9 = .val (.int H) := by subst hE; rfl
  have g12 : gt E 12 = .val (.bl C) := by subst hE; rfl
  have g13 : gt E 13 = .val (.lst (six t C H)) := by subst hE; rfl
  have g14 : gt E 14 = .val (.bl t) := by subst hE; rfl
  have b1 : evE cc (.call 15 (.cons false (.v 13) (.cons false (.lst (.cons false (.v 14) (.cons false (.v 14) (.cons false (.v 9) (.cons false (.v 9) (.cons false (.v 12) (.cons false (.v 12) .nil))))))) .nil))) E = .ok (.bl true) E :=
    call_val i15 (v_val g13) (es_of (lst_of (es_of (v_val g14) (es_of (v_val g14) (es_of (v_val g9) (es_of (v_val g9) (es_of (v_val g12) (es_of (v_val g12) es_end)))))) (by simp)) es_end) (by rw [hcf]; exact r15 (n + 3) t C H)
  have b2 : evE cc (.call 300 (.cons false (.v 4) (.cons false (.v 5) (.cons false (.v 2) .nil)))) E = .ok (.int (mx (hgtL bs sz en))) E := call_val i300 (v_val g4) (es_of (v_val g5) (es_of (v_val g2) es_end)) (by rw [hcf]; exact r0)
  have b3 : evE cc (.bool false (.cons false (.not (.call 15 (.cons false (.v 13) (.cons false (.lst (.cons false (.v 14) (.cons false (.v 14) (.cons false (.v 9) (.cons false (.v 9) (.cons false (.v 12) (.cons false (.v 12) .nil))))))) .nil)))) (.cons false (.bool true (.cons false (.v 12) (.cons false (.bool false (.cons false (.not (.v 14)) (.cons false (.cmp (.v 9) .Lt (.call 300 (.cons false (.v 4) (.cons false (.v 5) (.cons false (.v 2) .nil))))) .nil))) .nil))) .nil))) E = .ok (.bl false) E := by
    refine (bool_go (not_of b1 rfl) rfl rfl).trans ?_
    refine bool_last.trans ?_
    cases hc : C with
    | false => exact bool_stop (t := false) (v_val (by rw [g12, hc])) rfl (by decide)
    | true =>
      refine (bool_go (t := true) (v_val (d := .bl true) (by rw [g12, hc])) rfl rfl).trans ?_
      refine bool_last.trans ?_
      have hall : ∀ q ∈ ps, sp q.1 + sz q.1 ≤ sp q.2 := by
        intro q hq
        have := List.all_eq_true.mp (hC.symm.trans hc) q hq
        exact of_decide_eq_true this
      have ht1 : t = true := ht.mpr (follows_free ho sz sp hall)
      refine (bool_go (not_of (v_val g14) rfl) (t := !t) rfl (by rw [ht1]; rfl)).trans ?_
      refine bool_last.trans ?_
      have := cmp_of (o := .Lt) (v_val g9) b2 (lt_ints H (mx (hgtL bs sz en)))
      rw [this]
      have h3 := hgt hall
      rw [hH] at h3
      rw [decide_eq_false (by omega)]
  exact s_step ((ife_f b3 rfl).trans s_nil)
end
end Lk55
end
section
namespace Lk55
open PySem L2 Mi
theorem sl_last {c : Cfg} {E : En} {xs : List Mi.D} (h : gt E 8 = .val (.tup xs)) : evE c (.sl (.v 8) .nil (.cons false (.neg (.k (.int 1))) .nil)) E = .ok (.tup xs.dropLast) E := by
  rw [ev_sl, v_val h, ok_bind, evs_nil, parts_nil, ok_bind, evs_cons, evs_nil, parts_one]
  have h1 : evE c (.neg (.k (.int 1))) E = .ok (.int (-1)) E := rfl
  rw [h1, ok_bind]
  show (lift (some (some (-1 : Int))) E).bind _ = _
  rw [lift_some, ok_bind]
  show lift (some (Mi.D.tup (cutD xs none (some (-1))))) E = _
  rw [cut_last]
  rfl
theorem sl_tail {c : Cfg} {E : En} {xs : List Mi.D} (h : gt E 8 = .val (.tup xs)) (h1 : 1 ≤ xs.length) : evE c (.sl (.v 8) (.cons false (.k (.int 1)) .nil) .nil) E = .ok (.tup (xs.drop 1)) E := by
  rw [ev_sl, v_val h, ok_bind, evs_cons, evs_nil, parts_one, ev_k, ok_bind]
  show (lift (some (some (1 : Int))) E).bind _ = _
  rw [lift_some, ok_bind, parts_nil, ok_bind]
  show lift (some (Mi.D.tup (cutD xs (some 1) none))) E = _
  rw [cut_tail xs h1]
  rfl
section
variable {n : Nat} {cc : Cfg} {p0 : List Mi.D} {bs : List Bf} {sz sp : Str → Nat} {ps : List (Str × Str)} {p : List Mi.D} {x3 y9 y10 y11 y12 y13 y14 x15 : P}
/-- nine that are no placing -/
theorem part3 (hcc : T.p.cfg (T.p.run (n + 5)) f1006 [.ml p0, .val (hostD bs)] = cc) (hh : Host bs) (h0 : bs ≠ []) :
    ∃ y15, evSs cc (dropS 10 bdF) (EE p bs sz ps x3 (.val (.tup (valL bs sp))) y9 y10 y11 y12 y13 y14 x15) = .nx (EE p bs sz ps x3 (.val (.tup (valL bs sp))) y9 y10 y11 y12 y13 y14 y15) := by
  have hfew := hh.few
  have hlen := len_val bs sp
  have hpos : 0 < bs.length := List.length_pos_iff.mpr h0
  refine ⟨.val (.lst (nine bs sp)), ?_⟩
  have hl : ∀ i, i ≠ 0 → cc.lent i = false := fun i hi => lent6 hcc hi
  have hcf : cc.cf = T.p.run (n + 5) := by subst hcc; rfl
  have i302 : cc.io 302 = false := by subst hcc; rfl
  generalize hE : EE p bs sz ps x3 (.val (.tup (valL bs sp))) y9 y10 y11 y12 y13 y14 x15 = E
  have g8 : gt E 8 = .val (.tup (valL bs sp)) := by subst hE; rfl
  have a1 : evE cc (.bi .list (.cons false (.v 8) .nil)) E = .ok (.lst (valL bs sp)) E := bi_of (v_val g8) rfl
  have a2 : evE cc (.bop .Add (.v 8) (.tup (.cons false (.k (.int 0)) .nil))) E = .ok (.tup (valL bs sp ++ [.int 0])) E := bop_of (v_val g8) (tup_of (es_of ev_k es_end) (by simp)) (add_tups (by simp; omega))
  have a3 := sl_tail (c := cc) g8 (by omega)
  have a4 : evE cc (.bop .Add (.sl (.v 8) .nil (.cons false (.neg (.k (.int 1))) .nil)) (.tup (.cons false (.neg (.k (.int 1))) .nil))) E = .ok (.tup ((valL bs sp).dropLast ++ [.int (-1)])) E := bop_of (sl_last g8) (tup_of (es_of (d := .int (-1)) rfl es_end) (by simp)) (add_tups (by simp; omega))
  have a5 : evE cc (.bop .Add (.sl (.v 8) .nil (.cons false (.neg (.k (.int 1))) .nil)) (.tup (.cons false (.k (.bl false)) .nil))) E = .ok (.tup ((valL bs sp).dropLast ++ [.bl false])) E := bop_of (sl_last g8) (tup_of (es_of ev_k es_end) (by simp)) (add_tups (by simp; omega))
  have a6 : evE cc (.bop .Add (.sl (.v 8) .nil (.cons false (.neg (.k (.int 1))) .nil)) (.tup (.cons false (.k .non) .nil))) E = .ok (.tup ((valL bs sp).dropLast ++ [.non])) E := bop_of (sl_last g8) (tup_of (es_of ev_k es_end) (by simp)) (add_tups (by simp; omega))
  have a8 : evE cc (.tup (.cons false (.v 8) .nil)) E = .ok (.tup [.tup (valL bs sp)]) E := tup_of (es_of (v_val g8) es_end) (by simp)
  have k15 := lst_of (es_of a1 (es_of a2 (es_of a3 (es_of a4 (es_of a5 (es_of a6 (es_of (ev_k (d := .non)) (es_of a8 (es_of (ev_k (d := .str ("0" : PySem.Str))) es_end))))))))) (by simp)
  refine (s_step (asg_v (i := 15) (e2 := EE p bs sz ps x3 (.val (.tup (valL bs sp))) y9 y10 y11 y12 y13 y14 (.val (.lst (nine bs sp)))) k15 (hl _ (by decide)) (by subst hE; simp) (by subst hcc; rfl) (by subst hE; rfl))).trans ?_
  clear k15 a1 a2 a3 a4 a5 a6 a8 g8
  subst hE
  generalize hE : EE p bs sz ps x3 (.val (.tup (valL bs sp))) y9 y10 y11 y12 y13 y14 (.val (.lst (nine bs sp))) = E
  have hEl : 16 < E.length := by subst hE; simp
  have g2 : gt E 2 = .val (.tup (valL bs sz)) := by subst hE; rfl
  have g4 : gt E 4 = .val (planD bs) := by subst hE; rfl
  have g15 : gt E 15 = .val (.lst (nine bs sp)) := by subst hE; rfl
  have g16 : gt E 16 = .un := by subst hE; rfl
  have hc := comp_fm (c := cc) (i := 16) (elt := .v 16) (it := .e (.v 15)) (ifs := .cons false (.call 302 (.cons false (.v 4) (.cons false (.v 2) (.cons false (.v 16) .nil)))) .nil) (xs := nine bs sp) (e := E) (e1 := E) (g := id) (p := fun _ => false) (fun k => by simp) (by rw [ei_e, v_val g15, ok_bind]; rfl) (by rw [g16, hl _ (by decide)]; rfl) (line_of (by simp [nine])) (by
    intro x hx
    have e4 : gt (E.set 16 (.val x)) 4 = .val (planD bs) := by rw [gt_other (by decide), g4]
    have e2 : gt (E.set 16 (.val x)) 2 = .val (.tup (valL bs sz)) := by rw [gt_other (by decide), g2]
    have e16 : gt (E.set 16 (.val x)) 16 = .val x := gt_same hEl
    obtain ⟨d1, d2⟩ := nine_dat hfew sp x hx
    have r := r302no (n + 1) bs hfew (.tup (valL bs sz)) x d1 d2 (nine_no h0 sp x hx)
    have k : evE cc (.call 302 (.cons false (.v 4) (.cons false (.v 2) (.cons false (.v 16) .nil)))) (E.set 16 (.val x)) = .ok (.bl false) (E.set 16 (.val x)) := call_val i302 (v_val e4) (es_of (v_val e2) (es_of (v_val e16) es_end)) (by rw [hcf]; exact r)
    rw [evs_cons, evs_nil, ts_cons, k, ok_bind]
    rfl) (by
    intro x hx hq
    cases hq)
  have hf : (nine bs sp).filter (fun _ => false) = [] := List.filter_eq_nil_iff.mpr fun _ _ => by simp
  rw [hf] at hc
  have k := cmp_of (o := .NotEq) (b := .lst .nil) (y := .lst []) (e2 := E) (t := false) hc rfl rfl
  exact s_step ((ife_f k rfl).trans s_nil)
end
end Lk55
end
section
namespace Lk55
open PySem L2 Mi
section
variable {n : Nat} {cc : Cfg} {p0 : List Mi.D} {bs : List Bf} {sz : Str → Nat} {ps : List (Str × Str)} {p : List Mi.D} {x8 x9 x10 x11 x12 x13 x14 x15 : P}
/-- one turn -/
theorem turn (hcc : T.p.cfg (T.p.run (n + 5)) f1006 [.ml p0, .val (hostD bs)] = cc) (hh : Host bs) (h0 : bs ≠ []) (hs4 : ∀ s, sz s ≤ 4) (ho : Ord bs ps) {N : Int} (hB : Bx N p) (hN : N < 2 ^ 48) (k : Nat) :
    ∃ p' y8 y9 y10 y11 y12 y13 y14 y15, Bx (N + 12) p' ∧ evSs cc bdF (EE p bs sz ps (.val (nD k)) x8 x9 x10 x11 x12 x13 x14 x15) = .nx (EE p' bs sz ps (.val (nD k)) y8 y9 y10 y11 y12 y13 y14 y15) := by
  have hl : ∀ i, i ≠ 0 → cc.lent i = false := fun i hi => lent6 hcc hi
  obtain ⟨sp1, p1, hs1, hB1, k8⟩ := spots1 n (rest := (EE p bs sz ps (.val (nD k)) x8 x9 x10 x11 x12 x13 x14 x15).tail) hcc hB (by omega) hh rfl rfl
  have s8 : evS cc (.asg 8 (.bi .tuple (.cons false (.comp [16] (.call 11 (.cons false (.v 0) (.cons false (.k (.int 10)) .nil))) (.n 16) (.e (.v 1)) .nil) .nil))) (EE p bs sz ps (.val (nD k)) x8 x9 x10 x11 x12 x13 x14 x15) = .nx (EE p1 bs sz ps (.val (nD k)) (.val (.tup (valL bs sp1))) x9 x10 x11 x12 x13 x14 x15) := asg_v k8 (hl _ (by decide)) (by simp) (by subst hcc; rfl) rfl
  have two : ∃ sp p2, (∀ s, sp s ≤ 2000) ∧ Bx (N + 12) p2 ∧ evSs cc (dropS 1 bdF) (EE p1 bs sz ps (.val (nD k)) (.val (.tup (valL bs sp1))) x9 x10 x11 x12 x13 x14 x15) = evSs cc (dropS 2 bdF) (EE p2 bs sz ps (.val (nD k)) (.val (.tup (valL bs sp))) x9 x10 x11 x12 x13 x14 x15) := by
    have c1 : evE cc (.cmp (.v 3) .Gt (.k (.int 1))) (EE p1 bs sz ps (.val (nD k)) (.val (.tup (valL bs sp1))) x9 x10 x11 x12 x13 x14 x15) = .ok (.bl (decide (1 < k))) (EE p1 bs sz ps (.val (nD k)) (.val (.tup (valL bs sp1))) x9 x10 x11 x12 x13 x14 x15) := cmp_of (x := nD k) (y := .int 1) (v_val rfl) ev_k (gt_nD k 1)
    by_cases hk : 1 < k
    · obtain ⟨sp2, p2, hs2, hB2, k82⟩ := spots2 n (rest := (EE p1 bs sz ps (.val (nD k)) (.val (.tup (valL bs sp1))) x9 x10 x11 x12 x13 x14 x15).tail) (sz := sz) (ps := ps) hcc hB1 (by omega) hh hs4 ho rfl rfl rfl rfl (by simp)
      refine ⟨sp2, p2, hs2, hB2.mono (by omega), ?_⟩
      rw [decide_eq_true hk] at c1
      have s82 := asg_v (i := 8) (e2 := EE p2 bs sz ps (.val (nD k)) (.val (.tup (valL bs sp2))) x9 x10 x11 x12 x13 x14 x15) k82 (hl _ (by decide)) (by simp) (by subst hcc; rfl) rfl
      exact s_step ((ife_t c1 rfl).trans ((s_step s82).trans s_nil))
    · refine ⟨sp1, p1, fun s => by have := hs1 s; omega, hB1.mono (by omega), ?_⟩
      rw [decide_eq_false hk] at c1
      exact s_step ((ife_f c1 rfl).trans s_nil)
  obtain ⟨sp, p2, hs, hB2, hr⟩ := two
  obtain ⟨C, hC, y10, y11, h1⟩ := part1 (n := n) (cc := cc) (p0 := p0) (sz := sz) (sp := sp) (p := p2) (x3 := .val (nD k)) (x9 := x9) (x10 := x10) (x11 := x11) (x12 := x12) (x13 := x13) (x14 := x14) (x15 := x15) hcc hh h0 ho
  obtain ⟨y13, y14, h2⟩ := part2 (n := n) (cc := cc) (p0 := p0) (sz := sz) (sp := sp) (p := p2) (x3 := .val (nD k)) (y10 := y10) (y11 := y11) (x13 := x13) (x14 := x14) (x15 := x15) hcc hh h0 hs4 hs ho hC
  obtain ⟨y15, h3⟩ := part3 (n := n) (cc := cc) (p0 := p0) (bs := bs) (sz := sz) (sp := sp) (ps := ps) (p := p2) (x3 := .val (nD k)) (y9 := .val (.int (mx (hgtL bs sz sp)))) (y10 := y10) (y11 := y11) (y12 := .val (.bl C)) (y13 := y13) (y14 := y14) (x15 := x15) hcc hh h0
  exact ⟨p2, _, _, _, _, _, _, _, _, hB2, (s_step s8).trans (hr.trans (h1.trans (h2.trans h3)))⟩
end
theorem caseOk (n : Nat) : CaseOk (n + 6) := by
  intro N p bs hB hN hh h0
  obtain ⟨ps, sz, p1, ho, hs4, hB1, hd⟩ := case_head n hB (by omega) hh
  rw [run_fn (fn := f1006) rfl rfl rfl]
  generalize hcc : T.p.cfg (T.p.run (n + 5)) f1006 [.ml p, .val (hostD bs)] = cc
  show ∃ p', _ ∧ endF f1006 (evSs cc b1006 [.ml p, .val (hostD bs), .un, .un, .un, .un, .un, .un, .un, .un, .un, .un, .un, .un, .un, .un, .un, .un, .un]) = _
  rw [hd cc hcc]
  have i1 : evI cc (.rng (.cons false (.k (.int 4)) .nil)) (EE p1 bs sz ps .un .un .un .un .un .un .un .un .un) = .ok ((List.range 4).map fun i => .int (i : Nat)) (EE p1 bs sz ps .un .un .un .un .un .un .un .un .un) := by
    rw [ei_rng, es_of ev_k es_end, ok_bind]
    rfl
  obtain ⟨e4, h1, l, p', x3, x8, x9, x10, x11, x12, x13, x14, x15, h2, h3, rfl⟩ := for_inv (c := cc) (tg := .n 3) (b := bdF) (I := fun r e => ∃ (l : List Mi.D) (p' : List Mi.D) (x3 x8 x9 x10 x11 x12 x13 x14 x15 : P), ((List.range 4).map fun i => Mi.D.int (i : Nat)) = l ++ r ∧ Bx (N + 12 + 12 * l.length) p' ∧ e = EE p' bs sz ps x3 x8 x9 x10 x11 x12 x13 x14 x15) i1 ⟨[], p1, _, _, _, _, _, _, _, _, _, rfl, hB1.mono (by simp), rfl⟩ (by
      rintro x r e ⟨l, p', x3, x8, x9, x10, x11, x12, x13, x14, x15, h2, h3, rfl⟩
      have hl4 : l.length < 4 := by
        have := congrArg List.length h2
        simp at this
        omega
      have hx : x ∈ (List.range 4).map fun i => Mi.D.int (i : Nat) := by rw [h2]; simp
      obtain ⟨k, _, rfl⟩ := List.mem_map.mp hx
      refine ⟨EE p' bs sz ps (.val (nD k)) x8 x9 x10 x11 x12 x13 x14 x15, by subst hcc; rfl, rfl, ?_⟩
      obtain ⟨p2, y8, y9, y10, y11, y12, y13, y14, y15, g1, g2⟩ := turn (x8 := x8) (x9 := x9) (x10 := x10) (x11 := x11) (x12 := x12) (x13 := x13) (x14 := x14) (x15 := x15) hcc hh h0 hs4 ho h3 (by omega) k
      exact ⟨_, g2, l ++ [.int (k : Nat)], p2, _, _, _, _, _, _, _, _, _, by rw [h2]; simp, g1.mono (by simp; omega), rfl⟩)
  rw [List.append_nil] at h2
  have hl4 : l.length = 4 := by
    have := congrArg List.length h2
    simp at this
    omega
  have hend : evSs cc (tl3 b1006) (EE p1 bs sz ps .un .un .un .un .un .un .un .un .un) = .rt (.bl true) (EE p' bs sz ps x3 x8 x9 x10 x11 x12 x13 x14 x15) := (s_step h1).trans (s_rt (ret_of ev_k (by subst hcc; rfl)))
  exact ⟨p', h3.mono (by omega), (congrArg (endF f1006) hend).trans rfl⟩
theorem law_true : ∀ ns : List Int, ns.length ≤ 63 → (∀ z ∈ ns, PySem.Builtin.Int.intBits z ≤ 1048576) → ∃ ps, T.p.run 20 9 [.val (.scr (ns.map Mi.D.int))] = .ok (.bl true) ps := law_of_case (caseOk 12)
end Lk55
end
namespace Lk55
open PySem L2 Mi
theorem ok_1 : entC T e1 = true := by decide +kernel
theorem ok_342 : entC T e342 = true := by decide +kernel
theorem ok_343 : entC T e343 = true := by decide +kernel
theorem ok_344 : entC T e344 = true := by decide +kernel
theorem ok_347 : entC T e347 = true := by decide +kernel
theorem ok_349 : entC T e349 = true := by decide +kernel
theorem ok_292 : entC T e292 = true := by decide +kernel
theorem ok_293 : entC T e293 = true := by decide +kernel
theorem ok_297 : entC T e297 = true := by decide +kernel
theorem ok_298 : entC T e298 = true := by decide +kernel
theorem ok_299 : entC T e299 = true := by decide +kernel
theorem ok_300 : entC T e300 = true := by decide +kernel
theorem ok_302 : entC T e302 = true := by decide +kernel
theorem ok_303 : entC T e303 = true := by decide +kernel
theorem ok_350 : entC T e350 = true := by decide +kernel
theorem ok_351 : entC T e351 = true := by decide +kernel
theorem ok_10 : entC T e10 = true := by decide +kernel
theorem ok_11 : entC T e11 = true := by decide +kernel
theorem ok_12 : entC T e12 = true := by decide +kernel
theorem ok_13 : entC T e13 = true := by decide +kernel
theorem ok_14 : entC T e14 = true := by decide +kernel
theorem ok_15 : entC T e15 = true := by decide +kernel
theorem ok_16 : entC T e16 = true := by decide +kernel
theorem ok_1000 : entC T e1000 = true := by decide +kernel
theorem ok_1001 : entC T e1001 = true := by decide +kernel
theorem ok_1002 : entC T e1002 = true := by decide +kernel
theorem ok_1003 : entC T e1003 = true := by decide +kernel
theorem ok_1004 : entC T e1004 = true := by decide +kernel
theorem ok_1005 : entC T e1005 = true := by decide +kernel
theorem ok_1006 : entC T e1006 = true := by decide +kernel
theorem ok_1007 : entC T e1007 = true := by decide +kernel
theorem ok_1008 : entC T e1008 = true := by decide +kernel
theorem ok_9 : entC T e9 = true := by decide +kernel
theorem ok_355 : metC T e355 = true := by decide +kernel
theorem ok_357 : metC T e357 = true := by decide +kernel
theorem ok_358 : metC T e358 = true := by decide +kernel
theorem ok_359 : metC T e359 = true := by decide +kernel
theorem ok_361 : metC T e361 = true := by decide +kernel
theorem all_es : es.all (entC T) = true := by
  unfold es
  simp only [List.all_cons, List.all_nil, Bool.and_true, ok_1, ok_342, ok_343, ok_344, ok_347, ok_349, ok_292, ok_293, ok_297, ok_298, ok_299, ok_300, ok_302, ok_303, ok_350, ok_351, ok_10, ok_11, ok_12, ok_13, ok_14, ok_15, ok_16, ok_1000, ok_1001, ok_1002, ok_1003, ok_1004, ok_1005, ok_1006, ok_1007, ok_1008, ok_9]
theorem all_ms : ms.all (metC T) = true := by
  unfold ms
  simp only [List.all_cons, List.all_nil, Bool.and_true, ok_355, ok_357, ok_358, ok_359, ok_361]
theorem tabs : TabOk T es cs ms ats al := ⟨rfl, rfl, rfl, by decide +kernel, all_es, all_ms, by decide +kernel, by decide +kernel, by decide +kernel⟩
abbrev R : PySem.W.OpenRow := PySem.W.OpenLaw.row PySem.Challenge.rw_orderplaced_k55_placings
noncomputable abbrev hk : PySem.W.Hook := hookM 5 (factsOf T) (moreB T es cs ms ats) (defsOf es ms)
noncomputable def ob (s : PySem.W.SharedT) : He.AlD := obsMG 5 (factsOf T) (moreB T es cs ms ats) (defsOf es ms) (HandSHeadRun.getT s)
theorem ob_eq (s : PySem.W.SharedT) : ob s = hk.obs s.abs := obsMG_eq (HandSHeadRun.getT_eq s)
def loose : List PySem.Str := (["_wall", "PlaceError", "BadBuffer", "BadText", "NoBuffer", "is_number", "is_count", "is_name", "tupled", "number_in", "is_sizes", "size_table", "ends_below", "places", "height"] : List PySem.Str) ++ (["need", "is_placing", "follows", "is_buffer", "do_meet", "Plan", "_law_box", "_law_take", "_law_cells", "_law_of", "_law_pick", "_law_same", "_law_lists", "_law_meet", "_law_host"] : List PySem.Str) ++ (["_law_order", "_law_tags", "_law_sizes", "_law_is", "_law_case_right", "_law_by_hand_right", "_law_right", "LETTERS", "DIGITS", "MOST_LETTERS", "BLANK", "BETWEEN", "NOTHING", "PARTS"] : List PySem.Str)
theorem run (w : World) : HandSHeadRun.RunEq R (PySem.W.view R.prog [49]) hk ob 20000 loose w := by
  intro os
  kernel_rfl
end Lk55
open PySem PySem.W PySem.Calls PyProof.Rows
theorem PySem.Challenge.cw_orderplaced_k55_placings_holds : PySem.Challenge.rw_orderplaced_k55_placings.Holds := by
  w_on; o_law
  refine HandSHeadRun.head_any (r := OpenLaw.row PySem.Challenge.rw_orderplaced_k55_placings) (q := view (OpenLaw.row PySem.Challenge.rw_orderplaced_k55_placings).prog [49]) (H := Lk55.hk) (ob := Lk55.ob) (M := 20000) (loose := Lk55.loose) (d := HandSHeadRun.topDef (OpenLaw.row PySem.Challenge.rw_orderplaced_k55_placings).prog 49) (kwd := []) Lk55.ob_eq
    (by kernel_rfl) (fun s => by kernel_rfl) Lk55.run (by kernel_rfl) (by kernel_rfl) (by kernel_rfl) (by rfl) (by first | assumption | decide +kernel) (by decide +kernel) ⟨rfl, rfl, rfl, rfl, rfl, by decide +kernel⟩ ?hw ?hc
  case hw => w_witness2
  case hc =>
    exact Mi.walkH (l := PySem.Challenge.rw_orderplaced_k55_placings) (x := "_law_script") 20 9 Lk55.T Lk55.es Lk55.cs Lk55.ms Lk55.ats Lk55.al rfl (by kernel_rfl) ⟨rfl, by decide, by decide⟩ (fun w h Y => Y) (by decide +kernel) (by decide +kernel) (by decide +kernel) Lk55.tabs Lk55.law_true

