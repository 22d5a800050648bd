import PyProof.Rows.All
import Wide.All
import OpenK.AllK
import Wide.FinOn
import HandS.ForSpec
import HandS.Comp
import HandS.Dict
import HandS.Iter
import HandS.Text
import HandS.Wide
import HandS.WordsDict
import KE.SortData
import HandS.DeepEq
import HandS.Conv
import PyProof.WalkInts
import PyProof.FString5
import HandS.DictTup
import HandS.TupLen
import HandS.IsInst
import HandS.TupAny
import HandS.RaiseMore
import HandS.More
import HandS.WideBits
import HandS.Finally
import HandS.ExcOwn
import HandS.Flow
import KE.KDictCopyH
import PySem.Challenge.RW_doletaper_k82_standing_and_told
set_option Elab.async false
set_option linter.all false
set_option maxRecDepth 100000
/-! A small language, its values and what its programs compute: one reading for every def of a program. -/
namespace Dl
open PySem
/-! ### values, store -/
inductive Va where
  | non | bl (b : Bool) | int (i : Int) | str (s : Str) | tup (l : List Va) | ref (n : Nat) | rl (l : List Va) | hx
  deriving Inhabited
mutual
def Va.beq : Va → Va → Bool
  | .non, .non => true
  | .bl a, .bl b => a == b
  | .int a, .int b => a == b
  | .str a, .str b => decide (a = b)
  | .tup a, .tup b => Va.beqs a b
  | .ref a, .ref b => a == b
  | .rl a, .rl b => Va.beqs a b
  | .hx, .hx => true
  | _, _ => false
def Va.beqs : List Va → List Va → Bool
  | [], [] => true
  | x :: xs, y :: ys => Va.beq x y && Va.beqs xs ys
  | _, _ => false
end
mutual
theorem Va.beq_iff : ∀ a b : Va, Va.beq a b = true ↔ a = b
  | .non, b => by cases b <;> simp [Va.beq]
  | .bl x, b => by cases b <;> simp [Va.beq]
  | .int x, b => by cases b <;> simp [Va.beq]
  | .str x, b => by cases b <;> simp [Va.beq]
  | .tup x, b => by cases b <;> simp [Va.beq, Va.beqs_iff x]
  | .ref x, b => by cases b <;> simp [Va.beq]
  | .rl x, b => by cases b <;> simp [Va.beq, Va.beqs_iff x]
  | .hx, b => by cases b <;> simp [Va.beq]
theorem Va.beqs_iff : ∀ a b : List Va, Va.beqs a b = true ↔ a = b
  | [], b => by cases b <;> simp [Va.beqs]
  | x :: xs, b => by cases b <;> simp [Va.beqs, Va.beq_iff x, Va.beqs_iff xs]
end
instance : DecidableEq Va := fun a b => decidable_of_iff _ (Va.beq_iff a b)
inductive Ob where
  | lst (l : List Va) | dct (l : List (Va × Va)) | ins (c : Nat) (l : List (Nat × Va))
  deriving Inhabited, DecidableEq
abbrev Store := List Ob
abbrev Slots := List (Option Va)
/-- an expression's end -/
inductive R where
  | ok (v : Va) (h : Store) | exc (c : Nat) (fs : List Va) (h : Store) | bad
/-- a list of expressions' end -/
inductive Rl where
  | ok (vs : List Va) (h : Store) | exc (c : Nat) (fs : List Va) (h : Store) | bad
/-- a statement's end -/
inductive Rs where
  | nx (s : Slots) (h : Store) | rt (v : Va) (h : Store) | exc (c : Nat) (fs : List Va) (s : Slots) (h : Store) | bad
def R.bind : R → (Va → Store → R) → R
  | .ok v h, f => f v h
  | .exc c fs h, _ => .exc c fs h
  | .bad, _ => .bad
def R.bindl : R → (Va → Store → Rl) → Rl
  | .ok v h, f => f v h
  | .exc c fs h, _ => .exc c fs h
  | .bad, _ => .bad
def Rl.bind : Rl → (List Va → Store → R) → R
  | .ok v h, f => f v h
  | .exc c fs h, _ => .exc c fs h
  | .bad, _ => .bad
def R.thn (r : R) (s : Slots) (f : Va → Store → Rs) : Rs :=
  match r with
  | .ok v h => f v h
  | .exc c fs h => .exc c fs s h
  | .bad => .bad
def Rl.thn (r : Rl) (s : Slots) (f : List Va → Store → Rs) : Rs :=
  match r with
  | .ok v h => f v h
  | .exc c fs h => .exc c fs s h
  | .bad => .bad
def Rs.seq : Rs → (Slots → Store → Rs) → Rs
  | .nx s h, f => f s h
  | .rt v h, _ => .rt v h
  | .exc c fs s h, _ => .exc c fs s h
  | .bad, _ => .bad
/-! ### the language -/
inductive Bop where | add | sub | mul | fdiv | mod | pow
  deriving DecidableEq
inductive Cop where | eq | ne | lt | le | gt | ge | isN | notN | inn | nin
  deriving DecidableEq
inductive Tyk where | int | bool | str | list | tuple | dict
  deriving DecidableEq
/-- built-in functions and classes that are called by name -/
inductive Bi where | len | abs | min | max | sum | sorted | list | dict | tuple | int | str | divmod | isi (t : Tyk)
  deriving DecidableEq
/-- methods of built-in types -/
inductive Bm where | append | clear | reverse | items | values | insert | pop | split | join | partition | find | index | update | replace
  deriving DecidableEq
inductive Tg where | nm (i : Nat) | tup (ts : List Tg)
inductive Ex where
  | v (i : Nat) | k (c : Va) | g (i : Nat)
  | tup (es : List Ex) | lst (es : List Ex) | dct0
  | bin (o : Bop) (a b : Ex) | neg (a : Ex) | nt (a : Ex)
  | an (es : List Ex) | or (es : List Ex)
  | cmp (o : Cop) (a b : Ex) | cmp2 (o p : Cop) (a b c : Ex)
  | call (f : Nat) (es : List Ex) | mk (c : Nat) (es : List Ex) | meth (m : Nat) (o : Ex) (es : List Ex)
  | bi (b : Bi) (es : List Ex) | bm (b : Bm) (o : Ex) (es : List Ex)
  | fld (o : Ex) (f : Nat) | ix (a b : Ex) | sl (a : Ex) (lo hi : Option Ex)
  | ife (c a b : Ex)
  | comp (elt : Ex) (t : Tg) (it : Ex) (cond : Option Ex) (own : List Nat)
  | compR (elt : Ex) (t : Tg) (es : List Ex) (cond : Option Ex) (own : List Nat)
  | isx (a : Ex) (c : Nat)
  | dl (b : Bm) (o : Ex)
inductive Sm where
  | asg (t : Tg) (e : Ex) | par (i j : Nat) (a b : Ex) | fld (o : Ex) (f : Nat) (e : Ex) | sub (o i e : Ex)
  | ex (e : Ex) | ret (e : Ex) | retN | pass
  | ite (c : Ex) (a b : List Sm) | fr (t : Tg) (it : Ex) (b : List Sm) | frR (t : Tg) (es : List Ex) (b : List Sm) | whl (c : Ex) (b : List Sm)
  | rse (c : Nat) (es : List Ex)
  | try_ (b : List Sm) (hs : List (Nat × Option Nat × List Sm))
  | tryn (b : List Sm) | nvr
  | frz (l : List Nat)
/-! ### what built-in operations give -/
def rd (h : Store) (n : Nat) : Option (List Va) := match h[n]? with | some (.lst l) => some l | _ => none
/-- what stands as a sequence: its items -/
def seqOf (h : Store) : Va → Option (List Va)
  | .tup l => some l
  | .rl l => some l
  | .ref n => rd h n
  | _ => none
def truthy (h : Store) : Va → Option Bool
  | .non => some false
  | .bl b => some b
  | .int i => some (i != 0)
  | .str s => if s.length ≤ sizeLine then some ((s.length : Int) != 0) else none
  | .tup l => some (!l.isEmpty)
  | .rl l => some (!l.isEmpty)
  | .ref n => match h[n]? with
    | some (.lst l) => some (!l.isEmpty)
    | _ => none
  | .hx => none
/-- all of a list, or none -/
def allO {α : Type} : List (Option α) → Option (List α)
  | [] => some []
  | x :: xs => match x, allO xs with
    | some y, some ys => some (y :: ys)
    | _, _ => none
/-- a value as data -/
def dat (h : Store) : Nat → Va → Option PyData
  | _, .non => some .none
  | _, .bl b => some (.bool b)
  | _, .int i => some (.int i)
  | _, .str s => if PyData.strOk s then some (.str s) else none
  | n + 1, .tup l => (allO (l.map (dat h n))).map .tuple
  | n + 1, .rl l => (allO (l.map (dat h n))).map .list
  | n + 1, .ref r => match rd h r with
    | some l => (allO (l.map (dat h n))).map .list
    | none => none
  | _, _ => none
end Dl
set_option Elab.async false
set_option linter.all false
set_option maxRecDepth 100000
/-! What a program of the small language computes. -/
namespace Dl
open PySem
/-! ### operators -/
def binop (o : Bop) (h : Store) : Va → Va → R
  | .int i, .int j => match o with
    | .add => .ok (.int (i + j)) h
    | .sub => .ok (.int (i - j)) h
    | .mul => if i.natAbs.log2 + j.natAbs.log2 < 1000000 then .ok (.int (i * j)) h else .bad
    | .fdiv => if j ≠ 0 ∧ j.natAbs.log2 < 9000 then .ok (.int (i.fdiv j)) h else .bad
    | .mod => if j ≠ 0 then .ok (.int (i.fmod j)) h else .bad
    | .pow => if 0 ≤ j ∧ j ≤ 1000000 ∧ i.natAbs < 2 ^ 64 then .ok (.int (i ^ j.toNat)) h else .bad
  | .str x, .str y => match o with
    | .add => if x.length + y.length ≤ sizeLine then .ok (.str (x ++ y)) h else .bad
    | _ => .bad
  | .str x, .int k => match o with
    | .mul => if k = 0 then .ok (.str ⟨#[]⟩) h else if k = 1 then .ok (.str x) h else .bad
    | _ => .bad
  | .tup x, .tup y => match o with
    | .add => if x ≠ [] ∧ y ≠ [] ∧ x.length + y.length ≤ sizeLine then .ok (.tup (x ++ y)) h else .bad
    | _ => .bad
  | .ref a, .ref b => match o, rd h a, rd h b with
    | .add, some x, some y => if x.length + y.length ≤ sizeLine then .ok (.ref h.length) (h ++ [.lst (x ++ y)]) else .bad
    | _, _, _ => .bad
  | _, _ => .bad
def flat : Va → Bool
  | .non => true
  | .bl _ => true
  | .int _ => true
  | .str _ => true
  | _ => false
/-- == of flat values -/
def eqF : Va → Va → Bool
  | .non, .non => true
  | .bl a, .bl b => a == b
  | .bl a, .int b => (if a then 1 else 0) == b
  | .int a, .bl b => a == (if b then 1 else 0)
  | .int a, .int b => a == b
  | .str a, .str b => a == b
  | _, _ => false
/-- flat values that == tells apart as they are -/
def plainEq : Va → Va → Bool
  | .int _, .int _ => true
  | .str _, .str _ => true
  | .bl _, .bl _ => true
  | .non, .non => true
  | .non, .int _ => true
  | .int _, .non => true
  | .non, .bl _ => true
  | .bl _, .non => true
  | .non, .str _ => true
  | .str _, .non => true
  | .int _, .str _ => true
  | .str _, .int _ => true
  | .bl _, .str _ => true
  | .str _, .bl _ => true
  | _, _ => false
/-- x == y -/
def eqq (h : Store) (x y : Va) : Option Bool :=
  if plainEq x y then some (decide (x = y))
  else match dat h 20 x, dat h 20 y with
    | some d, some e => some (PyData.eqv d e)
    | _, _ => none
/-- the entry of a key -/
def dget (l : List (Va × Va)) (k : Va) : Option Va := (l.find? fun p => decide (p.1 = k)).map (·.2)
def dput (l : List (Va × Va)) (k v : Va) : List (Va × Va) :=
  if (l.any fun p => decide (p.1 = k)) = true then l.map (fun p => if p.1 = k then (p.1, v) else p) else l ++ [(k, v)]
/-- what a dict's key may be: an int, a text; a tuple of such that is no constant of the module -/
def kOk : Va → Bool
  | .int _ => true
  | .str _ => true
  | _ => false
def kTup (gl : List Va) : Va → Bool
  | .tup l => l.all kOk && decide (Va.tup l ∉ gl)
  | _ => false
/-- may k be asked of, put into these entries -/
def kFit (gl : List Va) (l : List (Va × Va)) (k : Va) : Bool :=
  (kOk k && l.all fun p => kOk p.1) || (kTup gl k && l.all fun p => kTup gl p.1)
/-- x in y -/
def inn (gl : List Va) (h : Store) (x y : Va) : Option Bool :=
  match y with
  | .str z => match x with
    | .str s => match s.cps.toList with
      | [c] => some (decide (c ∈ z.cps.toList))
      | _ => none
    | _ => none
  | .ref n => match h[n]? with
    | some (.dct l) => if kFit gl l x then some (dget l x).isSome else none
    | some (.lst l) => if flat x && l.all flat then some (l.any fun v => eqF v x) else none
    | _ => none
  | .tup l => if flat x && l.all flat then some (l.any fun v => eqF v x) else none
  | .rl l => if flat x && l.all flat then some (l.any fun v => eqF v x) else none
  | _ => none
def cmpo (gl : List Va) (o : Cop) (h : Store) (x y : Va) : Option Bool :=
  match o with
  | .eq => eqq h x y
  | .ne => (eqq h x y).map (!·)
  | .lt => match x, y with
    | .int i, .int j => some (decide (i < j))
    | .str s, .str t => some (decide (s.cps.toList < t.cps.toList))
    | _, _ => none
  | .le => match x, y with
    | .int i, .int j => some (decide (i ≤ j))
    | _, _ => none
  | .gt => match x, y with
    | .int i, .int j => some (decide (j < i))
    | _, _ => none
  | .ge => match x, y with
    | .int i, .int j => some (decide (j ≤ i))
    | _, _ => none
  | .isN => if y = .non then some (decide (x = .non)) else none
  | .notN => if y = .non then some (!decide (x = .non)) else none
  | .inn => inn gl h x y
  | .nin => (inn gl h x y).map (!·)
/-! ### items, slices -/
def ixN (n : Nat) (i : Int) : Option Nat := if 0 ≤ i then (if i < n then some i.toNat else none) else if -(n : Int) ≤ i then some (i + n).toNat else none
def atI {α : Type} (xs : List α) (i : Int) : Option α := (ixN xs.length i).bind fun j => xs[j]?
def sIx (n : Nat) (d : Nat) : Option Int → Nat
  | none => d
  | some i => if i < 0 then (i + n).toNat else min i.toNat n
def cut {α : Type} (xs : List α) (lo hi : Option Int) : List α := (xs.drop (sIx xs.length 0 lo)).take (sIx xs.length xs.length hi - sIx xs.length 0 lo)
def item (gl : List Va) (h : Store) (x y : Va) : Option Va :=
  match x with
  | .tup l => match y with
    | .int i => atI l i
    | _ => none
  | .rl l => match y with
    | .int i => atI l i
    | _ => none
  | .str z => match y with
    | .int i => if z.length ≤ sizeLine then (atI z.cps.toList i).map fun c => .str ⟨#[c]⟩ else none
    | _ => none
  | .ref n => match h[n]? with
    | some (.lst l) => match y with
      | .int i => atI l i
      | _ => none
    | some (.dct l) => if kFit gl l y then dget l y else none
    | _ => none
  | _ => none
def slc (h : Store) (x : Va) (lo hi : Option Int) : R :=
  match x with
  | .rl l => .ok (.ref h.length) (h ++ [.lst (cut l lo hi)])
  | .ref n => match rd h n with
    | some l => .ok (.ref h.length) (h ++ [.lst (cut l lo hi)])
    | none => .bad
  | .str z => if z.length ≤ sizeLine then .ok (.str ⟨(cut z.cps.toList lo hi).toArray⟩) h else .bad
  | .tup l => .ok (.tup (cut l lo hi)) h
  | _ => .bad
/-! ### order -/
mutual
/-- x < y of ints, texts and tuples of such -/
def ltv : Va → Va → Option Bool
  | .int i, .int j => some (decide (i < j))
  | .str s, .str t => some (decide (s.cps.toList < t.cps.toList))
  | .tup l, .tup m => lts l m
  | _, _ => none
def lts : List Va → List Va → Option Bool
  | [], [] => some false
  | [], _ :: _ => some true
  | _ :: _, [] => some false
  | x :: xs, y :: ys => if x = y then lts xs ys else ltv x y
end
def leV (a b : Va) : Bool := !decide (ltv b a = some true)
def sortV (l : List Va) : List Va := l.mergeSort leV
mutual
/-- can be compared, place by place -/
def alikeV : Va → Va → Bool
  | .int _, .int _ => true
  | .str _, .str _ => true
  | .tup l, .tup m => alikeVs l m
  | _, _ => false
def alikeVs : List Va → List Va → Bool
  | x :: xs, y :: ys => alikeV x y && alikeVs xs ys
  | [], _ => true
  | _ :: _, [] => true
end
def fstI : Va → Option Int
  | .tup (.int i :: _) => some i
  | _ => none
def tupNe : Va → Bool
  | .tup (_ :: _) => true
  | _ => false
def notTup : Va → Bool
  | .tup _ => false
  | _ => true
/-- what can be sorted: what is alike; tuples of unlike first numbers -/
def srtOk (h : Store) (l : List Va) : Bool := (l.all fun x => (dat h 20 x).isSome) && (((l.all fun x => l.all fun y => alikeV x y) && (l.all tupNe || l.all notTup)) ||
  (l.all fun x => (fstI x).isSome && alikeV x x) && l.all fun x => l.all fun y => !decide (fstI x = fstI y) || decide (x = y))
/-! ### built-in functions -/
def ints? (l : List Va) : Option (List Int) := allO (l.map fun v => match v with | .int i => some i | _ => none)
def strs? (l : List Va) : Option (List Str) := allO (l.map fun v => match v with | .str i => some i | _ => none)
def isTy (h : Store) : Tyk → Va → Option Bool
  | t, .non => some false
  | t, .bl _ => some (t = .bool || t = .int)
  | t, .int _ => some (t = .int)
  | t, .str _ => some (t = .str)
  | t, .tup _ => some (t = .tuple)
  | t, .rl _ => some (t = .list)
  | t, .ref n => match h[n]? with
    | some (.lst _) => some (t = .list)
    | some (.dct _) => some (t = .dict)
    | _ => none
  | t, .hx => none
/-- the pairs of a list of two-tuples -/
def prs? (l : List Va) : Option (List (Va × Va)) := allO (l.map fun v => match v with | .tup [a, b] => some (a, b) | _ => none)
def bfn (gl : List Va) (b : Bi) (h : Store) (vs : List Va) : R :=
  match b, vs with
  | .len, [.str s] => if s.length ≤ sizeLine then .ok (.int s.length) h else .bad
  | .len, [.ref n] => match h[n]? with
    | some (.lst l) => .ok (.int l.length) h
    | some (.dct l) => .ok (.int l.length) h
    | _ => .bad
  | .len, [.tup l] => .ok (.int l.length) h
  | .len, [.rl l] => .ok (.int l.length) h
  | .abs, [.int i] => .ok (.int (if i < 0 then -i else i)) h
  | .max, [.int i, .int j] => .ok (.int (if j > i then j else i)) h
  | .min, [.int i, .int j] => .ok (.int (if j < i then j else i)) h
  | .max, [.str i, .str j] => .ok (.str (if i.cps.toList < j.cps.toList then j else i)) h
  | .min, [.str i, .str j] => .ok (.str (if j.cps.toList < i.cps.toList then j else i)) h
  | .max, [.ref n] => match rd h n with
    | some l => match ints? l with
      | some (i :: is) => .ok (.int (is.foldl max i)) h
      | _ => .bad
    | _ => .bad
  | .min, [.ref n] => match rd h n with
    | some l => match ints? l with
      | some (i :: is) => .ok (.int (is.foldl min i)) h
      | _ => .bad
    | _ => .bad
  | .sum, [.ref n] => match rd h n with
    | some l => match ints? l with
      | some is => .ok (.int is.sum) h
      | _ => .bad
    | _ => .bad
  | .sorted, [.ref n] => match h[n]? with
    | some (.lst l) => if srtOk h l then .ok (.ref h.length) (h ++ [.lst (sortV l)]) else .bad
    | some (.dct l) => if srtOk h (l.map (·.1)) then .ok (.ref h.length) (h ++ [.lst (sortV (l.map (·.1)))]) else .bad
    | _ => .bad
  | .list, [.ref n] => match h[n]? with
    | some (.lst l) => .ok (.ref h.length) (h ++ [.lst l])
    | _ => .bad
  | .list, [.tup l] => .ok (.ref h.length) (h ++ [.lst l])
  | .list, [.rl l] => .ok (.ref h.length) (h ++ [.lst l])
  | .tuple, [.ref n] => match rd h n with
    | some l => .ok (.tup l) h
    | _ => .bad
  | .tuple, [.tup l] => .ok (.tup l) h
  | .dict, [.ref n] => match h[n]? with
    | some (.dct l) => if (l.all fun p => kOk p.1) then .ok (.ref h.length) (h ++ [.dct l]) else .bad
    | some (.lst l) => match prs? l with
      | some ps => if (ps.all fun p => kOk p.1) then .ok (.ref h.length) (h ++ [.dct (ps.foldl (fun acc p => dput acc p.1 p.2) [])]) else .bad
      | none => .bad
    | _ => .bad
  | .int, [.int i] => .ok (.int i) h
  | .int, [.bl b] => .ok (.int (if b then 1 else 0)) h
  | .str, [.int i] => if i.natAbs.log2 < 1920 then .ok (.str (toString i)) h else .bad
  | .str, [.str s] => .ok (.str s) h
  | .divmod, [.int i, .int j] => if 0 < j ∧ j.natAbs.log2 < 9000 then .ok (.tup [.int (i / j), .int (i % j)]) h else .bad
  | .isi t, [v] => match isTy h t v with
    | some c => .ok (.bl c) h
    | none => .bad
  | _, _ => .bad
def bmf (b : Bm) (h : Store) (o : Va) (vs : List Va) : R :=
  match b, o, vs with
  | .append, .ref n, [x] => match rd h n with
    | some l => if l.length < sizeLine then .ok .non (h.set n (.lst (l ++ [x]))) else .bad
    | none => .bad
  | .clear, .ref n, [] => match h[n]? with
    | some (.lst l) => .ok .non (h.set n (.lst []))
    | some (.dct l) => .ok .non (h.set n (.dct []))
    | _ => .bad
  | .reverse, .ref n, [] => match rd h n with
    | some l => .ok .non (h.set n (.lst l.reverse))
    | none => .bad
  | _, _, _ => .bad
/-- the receiver is of the type that has the method -/
def bmT (b : Bm) (h : Store) : Va → Bool
  | .ref n => match b with
    | .clear => (match h[n]? with
      | some (.lst _) => true
      | some (.dct _) => true
      | _ => false)
    | _ => (rd h n).isSome
  | _ => false
/-- list(d.items()), list(d.values()) -/
def dlf (b : Bm) (h : Store) : Va → R
  | .ref n => match h[n]? with
    | some (.dct l) => match b with
      | .items => .ok (.ref h.length) (h ++ [.lst (l.map fun p => .tup [p.1, p.2])])
      | .values => .ok (.ref h.length) (h ++ [.lst (l.map (·.2))])
      | _ => .bad
    | _ => .bad
  | _ => .bad
/-! ### expressions -/
structure Cls where
  init : Option Nat
  meths : List (Nat × Nat)
  flds : List Nat := []
  exc : Bool := false
  up : List Nat := []
/-- where a program runs: what a call gives (a level below), the module's constants, its classes, the exception that is handled -/
structure Cfg where
  run : Nat → List Va → Store → R
  gl : List Va
  cls : List Cls
  hd : Option (Nat × List Va) := none
  wl : (Nat → Rs) → Rs
def asn : Tg → Va → Slots → Option Slots
  | .nm i, v, s => some (s.set i (some v))
  | .tup ts, .tup vs, s => asns ts vs s
  | .tup _, _, _ => none
where
  asns : List Tg → List Va → Slots → Option Slots
    | [], [], s => some s
    | t :: ts, v :: vs, s => match asn t v s with
      | some s' => asns ts vs s'
      | none => none
    | _, _, _ => none
/-- the names of a block forgotten -/
def wipeS (s : Slots) : List Nat → Slots
  | [] => s
  | v :: vs => (wipeS s vs).set v none
/-- what a loop goes over: the items, and the list that must stay -/
def iter (h : Store) : Va → Option (List Va × Option Nat)
  | .tup l => some (l, none)
  | .rl l => some (l, none)
  | .str z => some (z.cps.toList.map fun c => .str ⟨#[c]⟩, none)
  | .ref n => (rd h n).map fun l => (l, some n)
  | _ => none
/-- the list that is gone over still is as it was -/
def stays (h : Store) (l : List Va) : Option Nat → Bool
  | none => true
  | some n => decide (h[n]? = some (.lst l))
def rangeI (lo : Int) : Nat → List Va
  | 0 => []
  | n + 1 => .int lo :: rangeI (lo + 1) n
/-- range(..): its items -/
@[irreducible] def rngI : List Va → Option (List Va)
  | [.int n] => if -(2 ^ 62) ≤ n ∧ n < 2 ^ 62 then some (rangeI 0 n.toNat) else none
  | [.int a, .int b] => if (-(2 ^ 62) ≤ a ∧ a < 2 ^ 62) ∧ -(2 ^ 62) ≤ b ∧ b < 2 ^ 62 then some (rangeI a (b - a).toNat) else none
  | _ => none
/-- a comprehension's loop -/
def goC (chk : Store → Bool) (f : Va → Store → Option (Option Va × Store)) : List Va → List Va → Store → Rl
  | [], acc, h => if chk h then .ok acc.reverse h else .bad
  | x :: xs, acc, h => if chk h then (match f x h with
    | some (some v, h') => goC chk f xs (v :: acc) h'
    | some (none, h') => goC chk f xs acc h'
    | none => .bad) else .bad
def R.opt : R → Option (Va × Store)
  | .ok v h => some (v, h)
  | _ => none
def lkF (f : Nat) (l : List (Nat × Va)) : Option Va := (l.find? fun p => p.1 == f).map (·.2)
def putF (f : Nat) (v : Va) : List (Nat × Va) → List (Nat × Va)
  | [] => [(f, v)]
  | (g, w) :: r => if g = f then (g, v) :: r else (g, w) :: putF f v r
mutual
def evE (C : Cfg) : Ex → Slots → Store → R
  | .v i, s, h => match s[i]? with
    | some (some v) => .ok v h
    | _ => .bad
  | .k c, _, h => .ok c h
  | .g i, _, h => match C.gl[i]? with
    | some v => .ok v h
    | none => .bad
  | .tup es, s, h => (evL C es s h).bind fun vs h => .ok (.tup vs) h
  | .lst es, s, h => (evL C es s h).bind fun vs h => .ok (.ref h.length) (h ++ [.lst vs])
  | .dct0, _, h => .ok (.ref h.length) (h ++ [.dct []])
  | .bin o a b, s, h => (evE C a s h).bind fun x h => (evE C b s h).bind fun y h => binop o h x y
  | .neg a, s, h => (evE C a s h).bind fun x h => match x with
    | .int i => .ok (.int (-i)) h
    | _ => .bad
  | .nt a, s, h => (evE C a s h).bind fun x h => match truthy h x with
    | some b => .ok (.bl (!b)) h
    | none => .bad
  | .an es, s, h => evA C es s h
  | .or es, s, h => evO C es s h
  | .cmp o a b, s, h => (evE C a s h).bind fun x h => (evE C b s h).bind fun y h => match cmpo C.gl o h x y with
    | some c => .ok (.bl c) h
    | none => .bad
  | .cmp2 o p a b c, s, h => (evE C a s h).bind fun x h => (evE C b s h).bind fun y h => match cmpo C.gl o h x y with
    | some true => (evE C c s h).bind fun z h => match cmpo C.gl p h y z with
      | some c => .ok (.bl c) h
      | none => .bad
    | some false => .ok (.bl false) h
    | none => .bad
  | .call f es, s, h => (evL C es s h).bind fun vs h => C.run f vs h
  | .mk c es, s, h => (evL C es s h).bind fun vs h => match C.cls[c]? with
    | some k => match k.init with
      | some f => (C.run f (.ref h.length :: vs) (h ++ [.ins c []])).bind fun v h' => if v = .non then .ok (.ref h.length) h' else .bad
      | none => .bad
    | none => .bad
  | .meth m o es, s, h => (evE C o s h).bind fun x h => match x with
    | .ref n => match h[n]? with
      | some (.ins c fs) => match C.cls[c]? with
        | some k => match k.meths.lookup m with
          | some f => (evL C es s h).bind fun vs h => C.run f (.ref n :: vs) h
          | none => .bad
        | none => .bad
      | _ => .bad
    | _ => .bad
  | .bi b es, s, h => (evL C es s h).bind fun vs h => bfn C.gl b h vs
  | .bm b o es, s, h => (evE C o s h).bind fun x h => if bmT b h x then (evL C es s h).bind fun vs h => bmf b h x vs else .bad
  | .fld o f, s, h => (evE C o s h).bind fun x h => match x with
    | .ref n => match h[n]? with
      | some (.ins _ fs) => match lkF f fs with
        | some v => .ok v h
        | none => .bad
      | _ => .bad
    | .hx => match C.hd with
      | some (_, v :: _) => .ok v h
      | _ => .bad
    | _ => .bad
  | .ix a b, s, h => (evE C a s h).bind fun x h => (evE C b s h).bind fun y h => match item C.gl h x y with
    | some v => .ok v h
    | none => .bad
  | .sl a lo hi, s, h => (evE C a s h).bind fun x h => evP C lo s h fun i h => evP C hi s h fun j h => slc h x i j
  | .ife c a b, s, h => (evE C c s h).bind fun x h => match truthy h x with
    | some true => evE C a s h
    | some false => evE C b s h
    | none => .bad
  | .comp elt t it cond own, s, h => (evE C it s h).bind fun v h => match iter h v with
    | some (l, n) => if l.length ≤ sizeLine then (goC (fun h => stays h l n) (fun x h => match asn t x (wipeS s own) with
      | some s' => match evC C cond s' h with
        | some (true, h) => (evE C elt s' h).opt.map fun (v, h) => (some v, h)
        | some (false, h) => some (none, h)
        | none => none
      | none => none) l [] h).bind fun vs h => .ok (.ref h.length) (h ++ [.lst vs]) else .bad
    | none => .bad
  | .compR elt t es cond own, s, h => (evL C es s h).bind fun vs h => match rngI vs with
    | some l => if l.length ≤ sizeLine then (goC (fun _ => true) (fun x h => match asn t x (wipeS s own) with
      | some s' => match evC C cond s' h with
        | some (true, h) => (evE C elt s' h).opt.map fun (v, h) => (some v, h)
        | some (false, h) => some (none, h)
        | none => none
      | none => none) l [] h).bind fun vs h => .ok (.ref h.length) (h ++ [.lst vs]) else .bad
    | none => .bad
  | .isx a c, s, h => (evE C a s h).bind fun x h => match x with
    | .hx => match C.hd with
      | some (d, _) => match C.cls[d]? with
        | some k => .ok (.bl (decide (c ∈ k.up))) h
        | none => .bad
      | none => .bad
    | _ => .bad
  | .dl b o, s, h => (evE C o s h).bind fun x h => dlf b h x
def evL (C : Cfg) : List Ex → Slots → Store → Rl
  | [], _, h => .ok [] h
  | e :: es, s, h => (evE C e s h).bindl fun v h => match evL C es s h with
    | .ok vs h => .ok (v :: vs) h
    | .exc c fs h => .exc c fs h
    | .bad => .bad
def evA (C : Cfg) : List Ex → Slots → Store → R
  | [], _, _ => .bad
  | [e], s, h => evE C e s h
  | e :: es, s, h => (evE C e s h).bind fun x h => match truthy h x with
    | some true => evA C es s h
    | some false => .ok x h
    | none => .bad
def evO (C : Cfg) : List Ex → Slots → Store → R
  | [], _, _ => .bad
  | [e], s, h => evE C e s h
  | e :: es, s, h => (evE C e s h).bind fun x h => match truthy h x with
    | some false => evO C es s h
    | some true => .ok x h
    | none => .bad
/-- a comprehension's test -/
def evC (C : Cfg) : Option Ex → Slots → Store → Option (Bool × Store)
  | none, _, h => some (true, h)
  | some c, s, h => match evE C c s h with
    | .ok b h => (truthy h b).map fun k => (k, h)
    | _ => none
def evP (C : Cfg) : Option Ex → Slots → Store → (Option Int → Store → R) → R
  | none, _, h, f => f none h
  | some e, s, h, f => (evE C e s h).bind fun v h => match v with
    | .int i => f (some i) h
    | _ => .bad
end
/-- a loop over items -/
def goS (chk : Store → Bool) (f : Va → Slots → Store → Rs) : List Va → Slots → Store → Rs
  | [], s, h => if chk h then .nx s h else .bad
  | x :: xs, s, h => if chk h then (f x s h).seq fun s h => goS chk f xs s h else .bad
/-- a while loop, at most n turns -/
def goW (t : Slots → Store → R) (f : Slots → Store → Rs) : Nat → Slots → Store → Rs
  | 0, _, _ => .bad
  | n + 1, s, h => (t s h).thn s fun v h => match truthy h v with
    | some true => (f s h).seq fun s h => goW t f n s h
    | some false => .nx s h
    | none => .bad
/-- the first clause that takes the exception -/
def Cfg.sub (C : Cfg) (c d : Nat) : Bool := match C.cls[c]? with
  | some k => decide (d ∈ k.up)
  | none => false
mutual
def exS (C : Cfg) : Sm → Slots → Store → Rs
  | .asg t e, s, h => (evE C e s h).thn s fun v h => match asn t v s with
    | some s' => .nx s' h
    | none => .bad
  | .par i j a b, s, h => (evE C a s h).thn s fun v h => (evE C b s h).thn s fun w h => .nx ((s.set i (some v)).set j (some w)) h
  | .fld o f e, s, h => (evE C e s h).thn s fun v h => (evE C o s h).thn s fun x h => match x with
    | .ref n => match h[n]? with
      | some (.ins c fs) => match C.cls[c]? with
        | some k => if fs.length < 1000 ∧ f ∈ k.flds then .nx s (h.set n (.ins c (putF f v fs))) else .bad
        | none => .bad
      | _ => .bad
    | _ => .bad
  | .sub o i e, s, h => (evE C e s h).thn s fun v h => (evE C o s h).thn s fun x h => (evE C i s h).thn s fun k h => match x with
    | .ref n => match h[n]? with
      | some (.dct l) => if kFit C.gl l k ∧ l.length < sizeLine then .nx s (h.set n (.dct (dput l k v))) else .bad
      | _ => .bad
    | _ => .bad
  | .ex e, s, h => (evE C e s h).thn s fun _ h => .nx s h
  | .ret e, s, h => (evE C e s h).thn s fun v h => .rt v h
  | .retN, _, h => .rt .non h
  | .pass, s, h => .nx s h
  | .ite c a b, s, h => (evE C c s h).thn s fun v h => match truthy h v with
    | some true => exB C a s h
    | some false => exB C b s h
    | none => .bad
  | .fr t it b, s, h => (evE C it s h).thn s fun v h => match iter h v with
    | some (l, n) => goS (fun h => stays h l n) (fun x s h => match asn t x s with
      | some s' => exB C b s' h
      | none => .bad) l s h
    | none => .bad
  | .frR t es b, s, h => (evL C es s h).thn s fun vs h => match rngI vs with
    | some l => goS (fun _ => true) (fun x s h => match asn t x s with
      | some s' => exB C b s' h
      | none => .bad) l s h
    | none => .bad
  | .whl c b, s, h => C.wl fun n => goW (fun s h => evE C c s h) (fun s h => exB C b s h) n s h
  | .rse c es, s, h => (evL C es s h).thn s fun vs h => .exc c vs s h
  | .try_ b hs, s, h => match exB C b s h with
    | .exc c fs s h => exH C hs c fs s h
    | r => r
  | .tryn b, s, h => match exB C b s h with
    | .exc .. => .bad
    | r => r
  | .nvr, _, _ => .bad
  | .frz _, s, h => .nx s h
def exB (C : Cfg) : List Sm → Slots → Store → Rs
  | [], s, h => .nx s h
  | st :: r, s, h => (exS C st s h).seq fun s h => exB C r s h
def exH (C : Cfg) : List (Nat × Option Nat × List Sm) → Nat → List Va → Slots → Store → Rs
  | [], c, fs, s, h => .exc c fs s h
  | (d, n, b) :: r, c, fs, s, h => if C.sub c d then (match n with
      | none => exB { C with hd := some (c, fs) } b s h
      | some i => match exB { C with hd := some (c, fs) } b (s.set i (some .hx)) h with
        | .nx s h => .nx (s.set i none) h
        | .exc .. => .bad
        | r => r)
    else exH C r c fs s h
end
/-! ### defs -/
structure Fn where
  np : Nat
  ns : Nat
  dv : List Va
  body : List Sm
structure Prog where
  fns : List Fn
  gl : List Va
  cls : List Cls
  wl : (Nat → Rs) → Rs
def begin_ (f : Fn) (vs : List Va) : Slots := (vs ++ f.dv.drop (vs.length + f.dv.length - f.np)).map some ++ List.replicate (f.ns - f.np) none
def Rs.end_ : Rs → R
  | .nx _ h => .ok .non h
  | .rt v h => .ok v h
  | .exc c fs _ h => .exc c fs h
  | .bad => .bad
def run (P : Prog) : Nat → Nat → List Va → Store → R
  | 0, _, _, _ => .bad
  | k + 1, f, vs, h => match P.fns[f]? with
    | some d => if vs.length ≤ d.np ∧ d.np ≤ vs.length + d.dv.length then
        (exB { run := run P k, gl := P.gl, cls := P.cls, wl := P.wl } d.body (begin_ d vs) h).end_ else .bad
    | none => .bad
/-! ### a while's end, if there is one -/
open Classical in
noncomputable def wlc (F : Nat → Rs) : Rs := if h : ∃ n, F n ≠ .bad then F (Classical.choose h) else .bad
theorem wlc_ok (F : Nat → Rs) : wlc F = .bad ∨ ∃ n, wlc F = F n := by
  unfold wlc
  split
  · exact .inr ⟨_, rfl⟩
  · exact .inl rfl
theorem goW_more {t : Slots → Store → R} {f : Slots → Store → Rs} : ∀ {n : Nat} {s : Slots} {h : Store}, goW t f n s h ≠ .bad → ∀ k, goW t f (n + k) s h = goW t f n s h
  | 0, s, h, e, k => absurd rfl e
  | n + 1, s, h, e, k => by
    rw [Nat.add_right_comm]
    unfold goW at e ⊢
    cases q : t s h with
    | bad => rfl
    | exc c fs h1 => rfl
    | ok v h1 =>
      rw [q] at e
      dsimp only [R.thn] at e ⊢
      cases q2 : truthy h1 v with
      | none => rfl
      | some b =>
        rw [q2] at e
        cases b with
        | false => rfl
        | true =>
          dsimp only at e ⊢
          cases q3 : f s h1 with
          | nx s2 h2 =>
            rw [q3] at e
            exact goW_more e k
          | rt v h2 => rfl
          | exc c fs s2 h2 => rfl
          | bad => rfl
theorem wlc_goW {t : Slots → Store → R} {f : Slots → Store → Rs} {n : Nat} {s : Slots} {h : Store} (e : goW t f n s h ≠ .bad) : wlc (fun n => goW t f n s h) = goW t f n s h := by
  unfold wlc
  have hh : ∃ n, goW t f n s h ≠ .bad := ⟨n, e⟩
  rw [dif_pos hh]
  have e2 := Classical.choose_spec hh
  generalize Classical.choose hh = m at e2 ⊢
  rcases Nat.le_total n m with l | l
  · obtain ⟨k, rfl⟩ := Nat.exists_eq_add_of_le l
    exact goW_more e k
  · obtain ⟨k, rfl⟩ := Nat.exists_eq_add_of_le l
    exact (goW_more e2 k).symm
end Dl
set_option Elab.async false
set_option linter.all false
set_option maxRecDepth 100000
/-! How the small language's values and store lie in the machine's heap. -/
namespace Dl
open PySem L2
/-- the names behind the numbers -/
structure Nm where
  fn : List Str
  gl : List Str
  cls : List Str
  fld : List Str
  mth : List Str
  mkb : List Nat
/-- what is fixed for a whole run -/
structure Gd where
  K : PySem.W.Frag
  gl : List Va
  CV : Nat → Value
  fld : List Str
  hx : Option Addr
/-- a tuple, a list of the module's own -/
def KTup (K : PySem.W.Frag) (a : Addr) (xs : List V) : Prop := ∃ (o : Obj) (its : Array Value) (n : Nat), K.lookup a = some o ∧ o.cls = .type "tuple" ∧ o.data = .seq its n ∧ its.size ≤ sizeLine ∧ Vals xs its.toList
def KLst (K : PySem.W.Frag) (a : Addr) (xs : List V) : Prop := ∃ (o : Obj) (its : Array Value) (n : Nat), K.lookup a = some o ∧ o.cls = .type "list" ∧ o.dict = none ∧ o.data = .seq its n ∧ its.size ≤ sizeLine ∧ Vals xs its.toList
mutual
inductive RV (G : Gd) (j : List Addr) (H : Hp) : Va → V → Prop
  | non : RV G j H .non .non
  | bl (b : Bool) : RV G j H (.bl b) (.bl b)
  | int (i : Int) : RV G j H (.int i) (.int i)
  | str (s : Str) : RV G j H (.str s) (.str s)
  | tup {a : Addr} {xs : List V} {l : List Va} : H a = some (.tup xs) → RVs G j H l xs → RV G j H (.tup l) (.ref a)
  | ktup {a : Addr} {xs : List V} {l : List Va} : Va.tup l ∈ G.gl → KTup G.K a xs → RVs G j H l xs → RV G j H (.tup l) (.ref a)
  | ref {n : Nat} {a : Addr} : j[n]? = some a → RV G j H (.ref n) (.ref a)
  | rl {a : Addr} {o : Obj} {xs : List V} {l : List Va} : H a = some (.frz o (.lst xs)) → RVs G j H l xs → RV G j H (.rl l) (.ref a)
  | krl {a : Addr} {xs : List V} {l : List Va} : KLst G.K a xs → RVs G j H l xs → RV G j H (.rl l) (.ref a)
  | hx {a : Addr} : G.hx = some a → RV G j H .hx (.ref a)
inductive RVs (G : Gd) (j : List Addr) (H : Hp) : List Va → List V → Prop
  | nil : RVs G j H [] []
  | cons {v : Va} {w : V} {l : List Va} {xs : List V} : RV G j H v w → RVs G j H l xs → RVs G j H (v :: l) (w :: xs)
end
/-- all tuples and known things as they were -/
structure Kp (j : List Addr) (H : Hp) (j' : List Addr) (H' : Hp) : Prop where
  pre : j <+: j'
  tu : ∀ a xs, H a = some (.tup xs) → H' a = some (.tup xs)
  fz : ∀ a o u, H a = some (.frz o u) → H' a = some (.frz o u)
/-- what comes behind: more objects, all but the store's own as they were -/
structure Ext (j : List Addr) (H : Hp) (j' : List Addr) (H' : Hp) : Prop extends Kp j H j' H' where
  fr : ∀ a u, a ∉ j → H a = some u → H' a = some u
  nw : ∀ a, a ∈ j' → a ∉ j → H a = none
theorem Ext.refl {j : List Addr} {H : Hp} : Ext j H j H := ⟨⟨List.prefix_refl _, fun _ _ e => e, fun _ _ _ e => e⟩, fun _ _ _ e => e, fun _ h n => absurd h n⟩
theorem Kp.trans {j j' j'' : List Addr} {H H' H'' : Hp} (a : Kp j H j' H') (b : Kp j' H' j'' H'') : Kp j H j'' H'' :=
  ⟨a.pre.trans b.pre, fun x xs e => b.tu x xs (a.tu x xs e), fun x o u e => b.fz x o u (a.fz x o u e)⟩
theorem Ext.trans {j j' j'' : List Addr} {H H' H'' : Hp} (a : Ext j H j' H') (b : Ext j' H' j'' H'') : Ext j H j'' H'' := by
  refine ⟨a.toKp.trans b.toKp, fun x u n e => ?_, fun x h n => ?_⟩
  · by_cases hx : x ∈ j'
    · rw [a.nw x hx n] at e
      cases e
    · exact b.fr x u hx (a.fr x u n e)
  · by_cases hx : x ∈ j'
    · exact a.nw x hx n
    · cases q : H x with
      | none => rfl
      | some u =>
        have := b.nw x h hx
        rw [a.fr x u n q] at this
        cases this
theorem pre_get {j j' : List Addr} (p : j <+: j') {n : Nat} {a : Addr} (e : j[n]? = some a) : j'[n]? = some a := by
  obtain ⟨t, rfl⟩ := p
  have h := (List.getElem?_eq_some_iff.mp e).1
  rw [List.getElem?_append_left h]
  exact e
section
variable {G : Gd} {j j' : List Addr} {H H' : Hp}
mutual
theorem RV.kp (e : Kp j H j' H') : ∀ {v : Va} {w : V}, RV G j H v w → RV G j' H' v w
  | _, _, .non => .non
  | _, _, .bl b => .bl b
  | _, _, .int b => .int b
  | _, _, .str b => .str b
  | _, _, .tup h r => .tup (e.tu _ _ h) (RVs.kp e r)
  | _, _, .ktup h k r => .ktup h k (RVs.kp e r)
  | _, _, .ref h => .ref (pre_get e.pre h)
  | _, _, .rl h r => .rl (e.fz _ _ _ h) (RVs.kp e r)
  | _, _, .krl h r => .krl h (RVs.kp e r)
  | _, _, .hx h => .hx h
theorem RVs.kp (e : Kp j H j' H') : ∀ {v : List Va} {w : List V}, RVs G j H v w → RVs G j' H' v w
  | _, _, .nil => .nil
  | _, _, .cons h r => .cons (RV.kp e h) (RVs.kp e r)
end
theorem RV.mono (e : Ext j H j' H') {v : Va} {w : V} (r : RV G j H v w) : RV G j' H' v w := r.kp e.toKp
theorem RVs.mono (e : Ext j H j' H') {v : List Va} {w : List V} (r : RVs G j H v w) : RVs G j' H' v w := r.kp e.toKp
theorem RVs.length : ∀ {l : List Va} {xs : List V}, RVs G j H l xs → l.length = xs.length
  | _, _, .nil => rfl
  | _, _, .cons _ r => by simp [RVs.length r]
theorem RVs.get : ∀ {l : List Va} {xs : List V} {i : Nat} {v : Va}, RVs G j H l xs → l[i]? = some v → ∃ w, xs[i]? = some w ∧ RV G j H v w
  | _, _, _, _, .nil, e => by simp at e
  | _, _, 0, _, .cons h _, e => by simp at e; subst e; exact ⟨_, rfl, h⟩
  | _, _, i + 1, _, .cons _ r, e => by
    obtain ⟨w, h1, h2⟩ := RVs.get (i := i) r (by simpa using e)
    exact ⟨w, by simpa using h1, h2⟩
theorem RVs.getV : ∀ {l : List Va} {xs : List V} {i : Nat} {w : V}, RVs G j H l xs → xs[i]? = some w → ∃ v, l[i]? = some v ∧ RV G j H v w
  | _, _, _, _, .nil, e => by simp at e
  | _, _, 0, _, .cons h _, e => by simp at e; subst e; exact ⟨_, rfl, h⟩
  | _, _, i + 1, _, .cons _ r, e => by
    obtain ⟨w, h1, h2⟩ := RVs.getV (i := i) r (by simpa using e)
    exact ⟨w, by simpa using h1, h2⟩
theorem RVs.append : ∀ {l m : List Va} {xs ys : List V}, RVs G j H l xs → RVs G j H m ys → RVs G j H (l ++ m) (xs ++ ys)
  | _, _, _, _, .nil, s => s
  | _, _, _, _, .cons h r, s => .cons h (RVs.append r s)
theorem RVs.take : ∀ {l : List Va} {xs : List V} (n : Nat), RVs G j H l xs → RVs G j H (l.take n) (xs.take n)
  | _, _, 0, _ => by simp; exact .nil
  | _, _, _ + 1, .nil => .nil
  | _, _, n + 1, .cons h r => .cons h (RVs.take n r)
theorem RVs.drop : ∀ {l : List Va} {xs : List V} (n : Nat), RVs G j H l xs → RVs G j H (l.drop n) (xs.drop n)
  | _, _, 0, r => r
  | _, _, _ + 1, .nil => .nil
  | _, _, n + 1, .cons h r => RVs.drop n r
theorem RVs.rev : ∀ {l : List Va} {xs : List V}, RVs G j H l xs → RVs G j H l.reverse xs.reverse
  | _, _, .nil => .nil
  | _, _, .cons h r => by
    rw [List.reverse_cons, List.reverse_cons]
    exact RVs.append (RVs.rev r) (.cons h .nil)
theorem RVs.set : ∀ {l : List Va} {xs : List V} {v : Va} {w : V} (n : Nat), RVs G j H l xs → RV G j H v w → RVs G j H (l.set n v) (xs.set n w)
  | _, _, _, _, _, .nil, _ => .nil
  | _, _, _, _, 0, .cons _ r, q => .cons q r
  | _, _, _, _, n + 1, .cons h r, q => .cons h (RVs.set n r q)
end
/-- a dict's key as the layer has it -/
def keyV : Va → Option Key
  | .int i => some (.inl i)
  | .str s => some (.inr s)
  | _ => none
def keyT (gl : List Va) : Va → Option (List Key)
  | .tup l => if Va.tup l ∈ gl then none else allO (l.map keyV)
  | _ => none
/-- an object of the store at its address -/
def RO (G : Gd) (j : List Addr) (H : Hp) (a : Addr) : Ob → Prop
  | .lst l => ∃ xs, H a = some (.lst xs) ∧ RVs G j H l xs
  | .dct l => (∃ ks : List (Key × V), H a = some (.dK ks) ∧ Paired (fun p q => keyV p.1 = some q.1 ∧ RV G j H p.2 q.2) l ks) ∨
      ∃ ks : List (List Key × V), H a = some (.dT ks) ∧ Paired (fun p q => keyT G.gl p.1 = some q.1 ∧ RV G j H p.2 q.2) l ks
  | .ins c fs => ∃ C dx fs', G.CV c = .ref C ∧ H a = some (.ins C dx fs') ∧ Paired (fun p q => (G.fld[p.1]? = some q.1 ∧ L2.Cls G.K C ∧ NoAttr G.K C q.1) ∧ RV G j H p.2 q.2) fs fs'
structure Sto (G : Gd) (j : List Addr) (h : Store) (H : Hp) : Prop where
  len : j.length = h.length
  nd : j.Nodup
  ob : ∀ (n : Nat) (a : Addr) (o : Ob), j[n]? = some a → h[n]? = some o → RO G j H a o
/-- the slots -/
structure Slo (G : Gd) (j : List Addr) (H : Hp) (s : Slots) (σ : L2.St) : Prop where
  len : s.length = σ.length
  at_ : ∀ (i : Nat) (v : Va), s[i]? = some (some v) → ∃ w, σ[i]? = some (some w) ∧ RV G j H v w
section
variable {G : Gd} {j j' : List Addr} {H H' : Hp} {h : Store}
theorem Paired.imp' {α β : Type} {F F' : α → β → Prop} : ∀ {l : List α} {m : List β}, Paired F l m → (∀ a b, F a b → F' a b) → Paired F' l m
  | _, _, .nil, _ => .nil
  | _, _, .cons a b, f => .cons (f _ _ a) (Paired.imp' b f)
/-- an object that stands as it was is told as it was -/
theorem RO.mono {a : Addr} (e : Kp j H j' H') (k : H' a = H a) : ∀ {o : Ob}, RO G j H a o → RO G j' H' a o
  | .lst l, ⟨xs, q, r⟩ => ⟨xs, k.trans q, r.kp e⟩
  | .dct l, .inl ⟨ks, q, r⟩ => .inl ⟨ks, k.trans q, Paired.imp' r fun _ _ z => ⟨z.1, z.2.kp e⟩⟩
  | .dct l, .inr ⟨ks, q, r⟩ => .inr ⟨ks, k.trans q, Paired.imp' r fun _ _ z => ⟨z.1, z.2.kp e⟩⟩
  | .ins c fs, ⟨C, dx, fs', c1, q, r⟩ => ⟨C, dx, fs', c1, k.trans q, Paired.imp' r fun _ _ z => ⟨z.1, z.2.kp e⟩⟩
theorem RO.some {a : Addr} : ∀ {o : Ob}, RO G j H a o → ∃ u, H a = some u ∧ (∀ xs, u ≠ .tup xs) ∧ ∀ o v, u ≠ .frz o v
  | .lst l, ⟨xs, q, r⟩ => ⟨_, q, fun _ z => (by cases z), fun _ _ z => (by cases z)⟩
  | .dct l, .inl ⟨ks, q, r⟩ => ⟨_, q, fun _ z => (by cases z), fun _ _ z => (by cases z)⟩
  | .dct l, .inr ⟨ks, q, r⟩ => ⟨_, q, fun _ z => (by cases z), fun _ _ z => (by cases z)⟩
  | .ins c fs, ⟨C, dx, fs', c1, q, r⟩ => ⟨_, q, fun _ z => (by cases z), fun _ _ z => (by cases z)⟩
theorem Sto.there (S : Sto G j h H) {n : Nat} {a : Addr} (e : j[n]? = some a) : ∃ o, h[n]? = some o ∧ RO G j H a o := by
  have hl := (List.getElem?_eq_some_iff.mp e).1
  have : n < h.length := by rw [← S.len]; exact hl
  exact ⟨h[n], by simp [this], S.ob n a _ e (by simp [this])⟩
theorem Sto.at_ (S : Sto G j h H) {n : Nat} {o : Ob} (e : h[n]? = some o) : ∃ a, j[n]? = some a ∧ RO G j H a o := by
  have hl := (List.getElem?_eq_some_iff.mp e).1
  have : n < j.length := by rw [S.len]; exact hl
  exact ⟨j[n], by simp [this], S.ob n _ _ (by simp [this]) e⟩
theorem Sto.no (S : Sto G j h H) {p : Addr} (e : H p = none) : p ∉ j := fun hm => by
  obtain ⟨n, hn⟩ := List.getElem?_of_mem hm
  obtain ⟨o, _, r⟩ := S.there hn
  obtain ⟨u, q, _⟩ := r.some
  rw [e] at q
  cases q
/-- a thing laid at a new address, none of the store's -/
theorem Ext.laid (p : Addr) (u : HO) (e : H p = none) : Ext j H j (upd H p u) :=
  ⟨⟨List.prefix_refl _, fun a xs q => by rw [upd_ne (ne_of_none q e)]; exact q, fun a o v q => by rw [upd_ne (ne_of_none q e)]; exact q⟩, fun a v _ q => by rw [upd_ne (ne_of_none q e)]; exact q, fun a h n => absurd h n⟩
theorem Sto.laid (S : Sto G j h H) {p : Addr} {u : HO} (e : H p = none) : Sto G j h (upd H p u) :=
  ⟨S.len, S.nd, fun n a o h1 h2 => (S.ob n a o h1 h2).mono (Ext.laid p u e).toKp (upd_ne fun z => S.no e (z ▸ List.mem_of_getElem? h1))⟩
theorem Ext.new {p : Addr} {u : HO} (e : H p = none) : Ext j H (j ++ [p]) (upd H p u) :=
  ⟨⟨List.prefix_append _ _, (Ext.laid (j := j) p u e).tu, (Ext.laid (j := j) p u e).fz⟩, (Ext.laid (j := j) p u e).fr, fun a h n => by
    rcases List.mem_append.mp h with h | h
    · exact absurd h n
    · rw [List.mem_singleton.mp h]
      exact e⟩
/-- a new object of the store -/
theorem Sto.new (S : Sto G j h H) {p : Addr} {u : HO} {o : Ob} (e : H p = none) (r : RO G (j ++ [p]) (upd H p u) p o) : Sto G (j ++ [p]) (h ++ [o]) (upd H p u) := by
  refine ⟨by simp [S.len], ?_, fun n a o' h1 h2 => ?_⟩
  · rw [List.nodup_append]
    exact ⟨S.nd, by simp, fun a ha b hb z => S.no e (by rw [List.mem_singleton.mp hb] at z; exact z ▸ ha)⟩
  · by_cases hn : n < j.length
    · rw [List.getElem?_append_left hn] at h1
      rw [List.getElem?_append_left (by rw [← S.len]; exact hn)] at h2
      exact (S.ob n a o' h1 h2).mono (Ext.new e).toKp (upd_ne fun z => S.no e (z ▸ List.mem_of_getElem? h1))
    · have hn' : n = j.length := by
        have := (List.getElem?_eq_some_iff.mp h1).1
        simp at this
        omega
      subst hn'
      simp at h1
      rw [S.len] at h2
      simp at h2
      subst h1 h2
      exact r
/-- an object of the store is changed -/
theorem Ext.put {n : Nat} {a : Addr} {u : HO} (S : Sto G j h H) (e : j[n]? = some a) : Ext j H j (upd H a u) := by
  obtain ⟨o, _, r⟩ := S.there e
  obtain ⟨v, q, n1, n2⟩ := r.some
  refine ⟨⟨List.prefix_refl _, fun b xs hb => ?_, fun b o v' hb => ?_⟩, fun b v' nb hb => by
    rw [upd_ne]
    · exact hb
    · rintro rfl
      exact nb (List.mem_of_getElem? e), fun b h n => absurd h n⟩
  · rw [upd_ne]
    · exact hb
    · rintro rfl
      rw [q] at hb
      exact n1 _ (Option.some.inj hb)
  · rw [upd_ne]
    · exact hb
    · rintro rfl
      rw [q] at hb
      exact n2 _ _ (Option.some.inj hb)
theorem Sto.put (S : Sto G j h H) {n : Nat} {a : Addr} {u : HO} {o : Ob} (e : j[n]? = some a) (r : RO G j (upd H a u) a o) : Sto G j (h.set n o) (upd H a u) := by
  refine ⟨by simp [S.len], S.nd, fun m b o' h1 h2 => ?_⟩
  by_cases hm : m = n
  · subst hm
    rw [e] at h1
    cases h1
    have hl := (List.getElem?_eq_some_iff.mp e).1
    rw [List.getElem?_set_self (by rw [← S.len]; exact hl)] at h2
    cases h2
    exact r
  · rw [List.getElem?_set_ne (Ne.symm hm)] at h2
    refine (S.ob m b o' h1 h2).mono (Ext.put S e).toKp (upd_ne ?_)
    rintro rfl
    exact hm ((List.getElem_inj S.nd).mp ((List.getElem?_eq_some_iff.mp h1).2.trans (List.getElem?_eq_some_iff.mp e).2.symm))
/-- a thing outside the store that is neither tuple nor known is changed -/
theorem Kp.side {p : Addr} {u : HO} {xs : List V} (e : H p = some (.lst xs)) : Kp j H j (upd H p u) := by
  refine ⟨List.prefix_refl _, fun b ys hb => ?_, fun b o v' hb => ?_⟩
  · rw [upd_ne]
    · exact hb
    · rintro rfl
      rw [e] at hb
      cases hb
  · rw [upd_ne]
    · exact hb
    · rintro rfl
      rw [e] at hb
      cases hb
theorem Sto.side (S : Sto G j h H) {p : Addr} {u : HO} {xs : List V} (n : p ∉ j) (e : H p = some (.lst xs)) : Sto G j h (upd H p u) :=
  ⟨S.len, S.nd, fun m b o h1 h2 => (S.ob m b o h1 h2).mono (Kp.side e) (upd_ne (by rintro rfl; exact n (List.mem_of_getElem? h1)))⟩
theorem Ext.side {p : Addr} {u : HO} (x : Ext j H j' H') (e : H p = none) : Ext j H j' (upd H' p u) := by
  have ne : ∀ {b v}, H b = some v → b ≠ p := fun {b v} hb z => by rw [z, e] at hb; cases hb
  exact ⟨⟨x.pre, fun b xs hb => by rw [upd_ne (ne hb)]; exact x.tu b xs hb, fun b o v hb => by rw [upd_ne (ne hb)]; exact x.fz b o v hb⟩, fun b v nb hb => by rw [upd_ne (ne hb)]; exact x.fr b v nb hb, x.nw⟩
/-- a thing that lay outside is the store's -/
theorem Ext.adopt {p : Addr} (x : Ext j H j' H') (e : H p = none) : Ext j H (j' ++ [p]) H' :=
  ⟨⟨x.pre.trans (List.prefix_append _ _), x.tu, x.fz⟩, x.fr, fun b hb nb => by
    rcases List.mem_append.mp hb with hb | hb
    · exact x.nw b hb nb
    · rw [List.mem_singleton.mp hb]
      exact e⟩
theorem Kp.adopt {p : Addr} : Kp j H (j ++ [p]) H := ⟨List.prefix_append _ _, fun _ _ e => e, fun _ _ _ e => e⟩
theorem Sto.adopt (S : Sto G j h H) {p : Addr} {o : Ob} (n : p ∉ j) (r : RO G (j ++ [p]) H p o) : Sto G (j ++ [p]) (h ++ [o]) H := by
  refine ⟨by simp [S.len], ?_, fun m a o' h1 h2 => ?_⟩
  · rw [List.nodup_append]
    exact ⟨S.nd, by simp, fun a ha b hb z => n (by rw [List.mem_singleton.mp hb] at z; exact z ▸ ha)⟩
  · by_cases hn : m < j.length
    · rw [List.getElem?_append_left hn] at h1
      rw [List.getElem?_append_left (by rw [← S.len]; exact hn)] at h2
      exact (S.ob m a o' h1 h2).mono Kp.adopt rfl
    · have hn' : m = j.length := by
        have := (List.getElem?_eq_some_iff.mp h1).1
        simp at this
        omega
      subst hn'
      simp at h1
      rw [S.len] at h2
      simp at h2
      subst h1 h2
      exact r
theorem Slo.mono {s : Slots} {σ : L2.St} (q : Slo G j H s σ) (e : Ext j H j' H') : Slo G j' H' s σ :=
  ⟨q.len, fun i v hv => let ⟨w, h1, h2⟩ := q.at_ i v hv; ⟨w, h1, h2.mono e⟩⟩
theorem Slo.set {s : Slots} {σ : L2.St} {v : Va} {w : V} (q : Slo G j H s σ) (i : Nat) (r : RV G j H v w) : Slo G j H (s.set i (some v)) (σ.set i (some w)) := by
  refine ⟨by simp [q.len], fun k u hu => ?_⟩
  by_cases hk : k = i
  · subst hk
    have hl : k < s.length := by
      have := (List.getElem?_eq_some_iff.mp hu).1
      simpa using this
    rw [List.getElem?_set_self hl] at hu
    cases hu
    exact ⟨w, by rw [List.getElem?_set_self (by rw [← q.len]; exact hl)], r⟩
  · rw [List.getElem?_set_ne (Ne.symm hk)] at hu
    obtain ⟨w', h1, h2⟩ := q.at_ k u hu
    exact ⟨w', by rw [List.getElem?_set_ne (Ne.symm hk)]; exact h1, h2⟩
theorem Slo.forget {s : Slots} {σ : L2.St} (q : Slo G j H s σ) (i : Nat) (o : Option V) : Slo G j H (s.set i none) (σ.set i o) := by
  refine ⟨by simp [q.len], fun k u hu => ?_⟩
  by_cases hk : k = i
  · subst hk
    have hl : k < s.length := by
      have := (List.getElem?_eq_some_iff.mp hu).1
      simpa using this
    rw [List.getElem?_set_self hl] at hu
    cases hu
  · rw [List.getElem?_set_ne (Ne.symm hk)] at hu
    obtain ⟨w', h1, h2⟩ := q.at_ k u hu
    exact ⟨w', by rw [List.getElem?_set_ne (Ne.symm hk)]; exact h1, h2⟩
theorem Slo.wipe {s : Slots} {σ : L2.St} (q : Slo G j H s σ) : ∀ own : List Nat, Slo G j H (wipeS s own) (L2.wipe σ own)
  | [] => q
  | v :: vs => by
    unfold wipeS L2.wipe
    exact (Slo.wipe q vs).forget v none
end
theorem set_self {α : Type} {l : List α} {n : Nat} {x : α} (e : l[n]? = some x) : l.set n x = l := List.ext_getElem? fun i => by
  by_cases hi : i = n
  · subst hi
    rw [List.getElem?_set_self (List.getElem?_eq_some_iff.mp e).1, e]
  · rw [List.getElem?_set_ne (Ne.symm hi)]
/-- what an exception bears -/
def RX (G : Gd) (j : List Addr) (H : Hp) (fs : List Va) (d : Option Addr) : Prop :=
  match fs with
  | [] => True
  | fs => ∃ d' ws, d = some d' ∧ H d' = some (.xd ws) ∧ Paired (fun v (q : Str × V) => RV G j H v q.2) fs ws
/-- what is wanted behind an expression -/
def PostE (G : Gd) (j : List Addr) (H : Hp) (r : R) (Q : VK) (W : XK) : Prop :=
  match r with
  | .ok v h' => ∀ j' H' w, Ext j H j' H' → Sto G j' h' H' → RV G j' H' v w → Q w H'
  | .exc c fs h' => ∀ j' H' d, Ext j H j' H' → Sto G j' h' H' → RX G j' H' fs d → W (G.CV c) d H'
  | .bad => False
def PostL (G : Gd) (j : List Addr) (H : Hp) (r : Rl) (Q : List V → Hp → Prop) (W : XK) : Prop :=
  match r with
  | .ok v h' => ∀ j' H' w, Ext j H j' H' → Sto G j' h' H' → RVs G j' H' v w → Q w H'
  | .exc c fs h' => ∀ j' H' d, Ext j H j' H' → Sto G j' h' H' → RX G j' H' fs d → W (G.CV c) d H'
  | .bad => False
section
variable {G : Gd} {j j' : List Addr} {H H' : Hp} {h : Store} {Q : VK} {W : XK}
theorem PostE.mono {r : R} (p : PostE G j H r Q W) (e : Ext j H j' H') : PostE G j' H' r Q W := by
  cases r with
  | ok v h' => exact fun j2 H2 w e2 s q => p j2 H2 w (e.trans e2) s q
  | exc c fs h' => exact fun j2 H2 d e2 s q => p j2 H2 d (e.trans e2) s q
  | bad => exact p
theorem PostL.mono {r : Rl} {Q : List V → Hp → Prop} (p : PostL G j H r Q W) (e : Ext j H j' H') : PostL G j' H' r Q W := by
  cases r with
  | ok v h' => exact fun j2 H2 w e2 s q => p j2 H2 w (e.trans e2) s q
  | exc c fs h' => exact fun j2 H2 d e2 s q => p j2 H2 d (e.trans e2) s q
  | bad => exact p
/-- the first of two steps -/
theorem PostE.bind {r : R} {f : Va → Store → R} {Q : VK} (p : PostE G j H (r.bind f) Q W) {Q1 : VK}
    (k : ∀ j1 H1 h1 v1 x, Ext j H j1 H1 → Sto G j1 h1 H1 → RV G j1 H1 v1 x → PostE G j1 H1 (f v1 h1) Q W → Q1 x H1) : PostE G j H r Q1 W := by
  cases r with
  | ok v h' => exact fun j2 H2 w e s q => k j2 H2 h' v w e s q (PostE.mono p e)
  | exc c fs h' => exact p
  | bad => exact p
theorem PostL.bind {r : Rl} {f : List Va → Store → R} {Q : VK} (p : PostE G j H (r.bind f) Q W) {Q1 : List V → Hp → Prop}
    (k : ∀ j1 H1 h1 v1 x, Ext j H j1 H1 → Sto G j1 h1 H1 → RVs G j1 H1 v1 x → PostE G j1 H1 (f v1 h1) Q W → Q1 x H1) : PostL G j H r Q1 W := by
  cases r with
  | ok v h' => exact fun j2 H2 w e s q => k j2 H2 h' v w e s q (PostE.mono p e)
  | exc c fs h' => exact p
  | bad => exact p
theorem PostE.bindl {r : R} {f : Va → Store → Rl} {Q : List V → Hp → Prop} (p : PostL G j H (r.bindl f) Q W) {Q1 : VK}
    (k : ∀ j1 H1 h1 v1 x, Ext j H j1 H1 → Sto G j1 h1 H1 → RV G j1 H1 v1 x → PostL G j1 H1 (f v1 h1) Q W → Q1 x H1) : PostE G j H r Q1 W := by
  cases r with
  | ok v h' => exact fun j2 H2 w e s q => k j2 H2 h' v w e s q (PostL.mono p e)
  | exc c fs h' => exact p
  | bad => exact p
theorem PostE.ok {v : Va} {w : V} (p : PostE G j H (.ok v h) Q W) (S : Sto G j h H) (r : RV G j H v w) : Q w H := p j H w .refl S r
/-- a new list -/
theorem PostE.newL {l : List Va} {xs : List V} (p : PostE G j H (.ok (.ref h.length) (h ++ [.lst l])) Q W) (S : Sto G j h H) (r : RVs G j H l xs) {a : Addr} (e : H a = none) : Q (.ref a) (upd H a (.lst xs)) := by
  have ex := Ext.new (j := j) (u := .lst xs) e
  refine p _ _ _ ex (S.new e ⟨xs, upd_same, r.mono ex⟩) (.ref ?_)
  rw [← S.len]
  simp
/-- a new object -/
theorem PostE.newO {o : Ob} {u : HO} (p : PostE G j H (.ok (.ref h.length) (h ++ [o])) Q W) (S : Sto G j h H) {a : Addr} (e : H a = none) (r : ∀ {j' H'}, Ext j H j' H' → H' a = some u → RO G j' H' a o) : Q (.ref a) (upd H a u) := by
  have ex := Ext.new (j := j) (u := u) e
  refine p _ _ _ ex (S.new e (r ex upd_same)) (.ref ?_)
  rw [← S.len]
  simp
/-- a new tuple -/
theorem PostE.newT {l : List Va} {xs : List V} (p : PostE G j H (.ok (.tup l) h) Q W) (S : Sto G j h H) (r : RVs G j H l xs) {a : Addr} (e : H a = none) : Q (.ref a) (upd H a (.tup xs)) := by
  have ex := Ext.laid (j := j) a (.tup xs) e
  exact p _ _ _ ex (S.laid e) (.tup upd_same (r.mono ex))
/-- a list changed -/
theorem PostE.putL {n : Nat} {a : Addr} {l : List Va} {xs : List V} {v : Va} {w : V} (p : PostE G j H (.ok v (h.set n (.lst l))) Q W) (S : Sto G j h H) (e : j[n]? = some a) (r : RVs G j H l xs) (rv : RV G j H v w) : Q w (upd H a (.lst xs)) := by
  have ex : Ext j H j (upd H a (.lst xs)) := Ext.put S e
  exact p _ _ _ ex (S.put e ⟨xs, upd_same, r.mono ex⟩) (rv.mono ex)
theorem Sto.lst (S : Sto G j h H) {n : Nat} {a : Addr} {l : List Va} (e : j[n]? = some a) (q : h[n]? = some (.lst l)) : ∃ xs, H a = some (.lst xs) ∧ RVs G j H l xs := S.ob n a _ e q
theorem rd_some {n : Nat} {l : List Va} (e : rd h n = some l) : h[n]? = some (.lst l) := by
  unfold rd at e
  split at e
  · cases e; assumption
  · cases e
end
end Dl
set_option Elab.async false
set_option linter.all false
set_option maxRecDepth 100000
set_option maxHeartbeats 1000000
/-! Each operator of the small language is the machine's, by values. -/
namespace Dl
open PySem PySem.Spec PyProof.Rows L2
section
variable {X : Cx} {G : Gd} {j : List Addr} {H : Hp} {h : Store} {x y : V}
/-! ### shapes -/
theorem RV.tupT (r : RV G j H (.tup l) x) : ∃ a xs, x = .ref a ∧ SqT G.K H a xs ∧ RVs G j H l xs := by
  cases r with
  | tup e q => exact ⟨_, _, rfl, .inl (.inl e), q⟩
  | ktup _ k q => exact ⟨_, _, rfl, .inr k, q⟩
theorem RV.rlL (r : RV G j H (.rl l) x) : ∃ a xs, x = .ref a ∧ SqL G.K H a xs ∧ RVs G j H l xs := by
  cases r with
  | rl e q => exact ⟨_, _, rfl, .inl (.inr ⟨_, e⟩), q⟩
  | krl k q => exact ⟨_, _, rfl, .inr k, q⟩
theorem RV.refA {n : Nat} (r : RV G j H (.ref n) x) : ∃ a, x = .ref a ∧ j[n]? = some a := by
  cases r with
  | ref e => exact ⟨_, rfl, e⟩
theorem RV.intE {i : Int} (r : RV G j H (.int i) x) : x = .int i := by cases r; rfl
theorem RV.strE {i : Str} (r : RV G j H (.str i) x) : x = .str i := by cases r; rfl
theorem RV.blE {i : Bool} (r : RV G j H (.bl i) x) : x = .bl i := by cases r; rfl
theorem RV.nonE (r : RV G j H .non x) : x = .non := by cases r; rfl
theorem RVs.nilE {xs : List V} (r : RVs G j H [] xs) : xs = [] := by cases r; rfl
theorem RVs.consE {v : Va} {l : List Va} {xs : List V} (r : RVs G j H (v :: l) xs) : ∃ w ws, xs = w :: ws ∧ RV G j H v w ∧ RVs G j H l ws := by
  cases r with
  | cons a b => exact ⟨_, _, rfl, a, b⟩
theorem RVs.ne {l : List Va} {xs : List V} (r : RVs G j H l xs) (n : l ≠ []) : xs ≠ [] := by
  cases r with
  | nil => exact absurd rfl n
  | cons _ _ => exact fun q => nomatch q
/-! ### binary operators -/
def Bop.py : Bop → Operator
  | .add => .Add
  | .sub => .Sub
  | .mul => .Mult
  | .fdiv => .FloorDiv
  | .mod => .Mod
  | .pow => .Pow
/-- by values: a step of the interpreter -/
def V2 (G : Gd) (f : Store → Va → Va → R) : R2 := fun x y H Q => ∃ j h v1 v2 W, Sto G j h H ∧ RV G j H v1 x ∧ RV G j H v2 y ∧ PostE G j H (f h v1 v2) Q W
theorem op_fdivA : OpR X (binaryOp .FloorDiv) (rI (fun _ j => j ≠ 0 ∧ j.natAbs.log2 < 9000) fun i j => .int (i.fdiv j)) :=
  opI fun _ _ _ _ _ _ _ hc q => floordiv_int hc.1 q (.inl (PyProof.noPylong_of_log2 hc.2))
theorem op_strMul : OpR X (binaryOp .Mult) (fun x y H Q => ∃ s k, x = .str s ∧ y = .int k ∧ ((k = 0 ∧ Q (.str ⟨#[]⟩) H) ∨ (k = 1 ∧ Q (.str s) H))) := by
  rintro pins s σ H x y v u Q I rx ry ⟨z, k, rfl, rfl, q⟩
  obtain ⟨t, rfl⟩ := rx
  obtain ⟨t', rfl⟩ := ry
  rcases q with ⟨rfl, q⟩ | ⟨rfl, q⟩
  · exact PySem.P.mul_str_none (by decide) (by decide) ⟨.str ⟨#[]⟩, H, I.tok _, ⟨_, rfl⟩, q⟩
  · refine PySem.P.mul_str (by decide) (fun _ e => ?_) (fun _ e => ?_) ?_
    · simp at e
    · simp at e
    · rw [if_neg (by decide), if_pos (by simp)]
      exact ⟨.str z, H, I, ⟨_, rfl⟩, q⟩
theorem binop_ok (hK : G.K = X.K) (o : Bop) : OpR X (binaryOp o.py) (V2 G (binop o)) := by
  rintro pins s σ H x y v u Q I rx ry ⟨j, h, v1, v2, W, S, r1, r2, p⟩
  have go : ∀ {r : R2}, OpR X (binaryOp o.py) r → r x y H Q → wpAny (model X.prog X.w) X.A (binaryOp o.py v u) (EP X pins σ Q) X.xe s := fun ho q => ho pins s σ H x y v u Q I rx ry q
  unfold binop at p
  split at p
  · cases r1.intE
    cases r2.intE
    cases o with
    | add => exact go op_add ⟨_, _, rfl, rfl, p.ok S (.int _)⟩
    | sub => exact go op_sub ⟨_, _, rfl, rfl, p.ok S (.int _)⟩
    | mul =>
      dsimp only at p
      split at p
      · exact go op_mulW ⟨_, _, rfl, rfl, (by assumption), p.ok S (.int _)⟩
      · exact p.elim
    | fdiv =>
      dsimp only at p
      split at p
      · exact go op_fdivA ⟨_, _, rfl, rfl, (by assumption), p.ok S (.int _)⟩
      · exact p.elim
    | mod =>
      dsimp only at p
      split at p
      · exact go op_modN ⟨_, _, rfl, rfl, (by assumption), p.ok S (.int _)⟩
      · exact p.elim
    | pow =>
      dsimp only at p
      split at p
      · exact go op_pow ⟨_, _, rfl, rfl, (by assumption), p.ok S (.int _)⟩
      · exact p.elim
  · cases r1.strE
    cases r2.strE
    cases o with
    | add =>
      dsimp only at p
      split at p
      · exact go op_add_str ⟨_, _, rfl, rfl, (by assumption), p.ok S (.str _)⟩
      · exact p.elim
    | _ => exact p.elim
  · cases r1.strE
    cases r2.intE
    cases o with
    | mul =>
      dsimp only at p
      split at p
      · exact go op_strMul ⟨_, _, rfl, rfl, .inl ⟨by assumption, p.ok S (.str _)⟩⟩
      · split at p
        · exact go op_strMul ⟨_, _, rfl, rfl, .inr ⟨by assumption, p.ok S (.str _)⟩⟩
        · exact p.elim
    | _ => exact p.elim
  · obtain ⟨a, xs, rfl, q1, r1⟩ := r1.tupT
    obtain ⟨b, ys, rfl, q2, r2⟩ := r2.tupT
    cases o with
    | add =>
      dsimp only at p
      split at p
      · rename_i hc
        rw [hK] at q1 q2
        refine go op_catT ⟨a, b, xs, ys, rfl, rfl, q1, q2, r1.ne hc.1, by rw [← r1.length, ← r2.length]; exact hc.2.2, fun z => absurd z (r2.ne hc.2.1), fun _ t ht => ?_⟩
        exact p.newT S (r1.append r2) ht
      · exact p.elim
    | _ => exact p.elim
  · obtain ⟨a, rfl, e1⟩ := r1.refA
    obtain ⟨b, rfl, e2⟩ := r2.refA
    split at p
    · rename_i q1 q2
      split at p
      · obtain ⟨xs, h1, r1⟩ := S.lst e1 (rd_some q1)
        obtain ⟨ys, h2, r2⟩ := S.lst e2 (rd_some q2)
        refine go op_cat ⟨a, b, xs, ys, rfl, rfl, h1, h2, by rw [← r1.length, ← r2.length]; assumption, fun t ht => ?_⟩
        exact p.newL S (r1.append r2) ht
      · exact p.elim
    · exact p.elim
  · exact p.elim
/-! ### minus -/
theorem neg_ok : UnR X (unaryOp .USub) (fun x H Q => ∃ j h v W, Sto G j h H ∧ RV G j H v x ∧ PostE G j H (match v with | .int i => .ok (.int (-i)) h | _ => .bad) Q W) := by
  rintro pins s σ H x v Q I rx ⟨j, h, v1, W, S, r1, p⟩
  split at p
  · cases r1.intE
    exact un_neg pins s σ H _ v Q I rx ⟨_, rfl, p.ok S (.int _)⟩
  · exact p.elim
/-! ### truth -/
theorem nilB {l : List Va} {xs : List V} (r : RVs G j H l xs) : (!l.isEmpty) = !xs.isEmpty := by
  cases r <;> rfl
theorem tru_of (hK : G.K = X.K) (S : Sto G j h H) {v : Va} {b : Bool} (r : RV G j H v x) (e : truthy h v = some b) : TruV X.K x H b := by
  rw [← hK]
  unfold truthy at e
  split at e
  · cases r.nonE
    cases e
    rfl
  · cases r.blE
    cases e
    rfl
  · cases r.intE
    cases e
    rfl
  · cases r.strE
    split at e
    · cases e
      exact ⟨by assumption, rfl⟩
    · cases e
  · obtain ⟨a, xs, rfl, q, r⟩ := r.tupT
    cases e
    exact .inr (.inl ⟨xs, q, nilB r⟩)
  · obtain ⟨a, xs, rfl, q, r⟩ := r.rlL
    cases e
    exact .inl ⟨xs, q, nilB r⟩
  · obtain ⟨a, rfl, e1⟩ := r.refA
    split at e
    · rename_i q
      obtain ⟨xs, h1, r⟩ := S.lst e1 q
      cases e
      exact .inl ⟨xs, SqL.of h1, nilB r⟩
    · cases e
  · cases e
/-! ### == -/
theorem allO_cons {α : Type} {o : Option α} {l : List (Option α)} {ys : List α} (e : allO (o :: l) = some ys) : ∃ y r, o = some y ∧ allO l = some r ∧ ys = y :: r := by
  unfold allO at e
  split at e
  · cases e
    exact ⟨_, _, rfl, by assumption, rfl⟩
  · cases e
theorem dp_of (S : Sto G j h H) : ∀ (n : Nat) {v : Va} {x : V} {d : PyData}, RV G j H v x → dat h n v = some d → Dp G.K H x d ∧ d.canLay0 = true ∧ d.depth ≤ n := by
  intro n
  have base : ∀ {v : Va} {x : V} {d : PyData} (n : Nat), RV G j H v x → dat h n v = some d → (∀ l, v ≠ .tup l) → (∀ l, v ≠ .rl l) → (∀ l, v ≠ .ref l) → Dp G.K H x d ∧ d.canLay0 = true ∧ d.depth ≤ n := by
    intro v x d n r e n1 n2 n3
    cases v with
    | non => cases r.nonE; unfold dat at e; cases e; exact ⟨.non, rfl, Nat.zero_le _⟩
    | bl b => cases r.blE; unfold dat at e; cases e; exact ⟨.bl b, rfl, Nat.zero_le _⟩
    | int i => cases r.intE; unfold dat at e; cases e; exact ⟨.int i, rfl, Nat.zero_le _⟩
    | str z =>
      cases r.strE
      unfold dat at e
      split at e
      · cases e; exact ⟨.str z, by simpa [PyData.canLay0] using (by assumption), Nat.zero_le _⟩
      · cases e
    | tup l => exact absurd rfl (n1 l)
    | rl l => exact absurd rfl (n2 l)
    | ref l => exact absurd rfl (n3 l)
    | hx => cases n <;> simp [dat] at e
  induction n with
  | zero =>
    intro v x d r e
    refine base 0 r e ?_ ?_ ?_ <;> (rintro l rfl; simp [dat] at e)
  | succ n ih =>
    intro v x d r e
    have lst : ∀ {l : List Va} {xs : List V} {ds : List PyData}, RVs G j H l xs → allO (l.map (dat h n)) = some ds → DpAll G.K H xs ds ∧ PyData.canLayAll0 ds = true ∧ PyData.depthAll ds ≤ n := by
      intro l
      induction l with
      | nil =>
        intro xs ds r e
        cases r
        cases e
        exact ⟨.nil, rfl, Nat.zero_le _⟩
      | cons v l ihl =>
        intro xs ds r e
        obtain ⟨w, ws, rfl, r1, r2⟩ := r.consE
        rw [List.map_cons] at e
        obtain ⟨d, dr, e1, e2, rfl⟩ := allO_cons e
        obtain ⟨a1, a2, a3⟩ := ih r1 e1
        obtain ⟨b1, b2, b3⟩ := ihl r2 e2
        refine ⟨.cons a1 b1, by simp [PyData.canLayAll0, a2, b2], ?_⟩
        unfold PyData.depthAll
        omega
    cases v with
    | tup l =>
      obtain ⟨a, xs, rfl, q, r⟩ := r.tupT
      unfold dat at e
      cases e2 : allO (l.map (dat h n)) with
      | none => rw [e2] at e; cases e
      | some ds =>
        rw [e2] at e
        cases e
        obtain ⟨b1, b2, b3⟩ := lst r e2
        exact ⟨.tup q b1, b2, by unfold PyData.depth; omega⟩
    | rl l =>
      obtain ⟨a, xs, rfl, q, r⟩ := r.rlL
      unfold dat at e
      cases e2 : allO (l.map (dat h n)) with
      | none => rw [e2] at e; cases e
      | some ds =>
        rw [e2] at e
        cases e
        obtain ⟨b1, b2, b3⟩ := lst r e2
        exact ⟨.lst q b1, b2, by unfold PyData.depth; omega⟩
    | ref m =>
      obtain ⟨a, rfl, e1⟩ := r.refA
      unfold dat at e
      split at e
      · rename_i l ql
        obtain ⟨xs, h1, r⟩ := S.lst e1 (rd_some ql)
        cases e2 : allO (l.map (dat h n)) with
        | none => rw [e2] at e; cases e
        | some ds =>
          rw [e2] at e
          cases e
          obtain ⟨b1, b2, b3⟩ := lst r e2
          exact ⟨.lst (SqL.of h1) b1, b2, by unfold PyData.depth; omega⟩
      · cases e
    | _ => exact base (n + 1) r e (fun _ q => nomatch q) (fun _ q => nomatch q) (fun _ q => nomatch q)
theorem plain_scal {v1 v2 : Va} (e : plainEq v1 v2 = true) (r1 : RV G j H v1 x) (r2 : RV G j H v2 y) : scal x y = true ∧ decide (x = y) = decide (v1 = v2) := by
  unfold plainEq at e
  split at e <;> first
    | exact absurd e (by decide)
    | (cases r1; cases r2; exact ⟨rfl, by simp⟩)
theorem shape_of {d : PyData} (a : d.canLay0 = true) (b : d.depth ≤ 20) : SeqAt.shaped d = true := by
  unfold SeqAt.shaped
  rw [a, Bool.true_and, decide_eq_true_iff]
  omega
/-- a test of two values -/
def T2 (G : Gd) (f : Store → Va → Va → Option Bool) : R2 := fun x y H Q => ∃ j h v1 v2 b, Sto G j h H ∧ RV G j H v1 x ∧ RV G j H v2 y ∧ f h v1 v2 = some b ∧ ∀ H', Ext j H j H' → Sto G j h H' → Q (.bl b) H'
theorem eq_ok (hK : G.K = X.K) (hu : X.A.units + 64 < cLine) : OpR X (compareOp .Eq) (T2 G eqq) := by
  rintro pins s σ H x y v u Q I rx ry ⟨j, h, v1, v2, b, S, r1, r2, e, q0⟩
  have q := q0 H .refl S
  unfold eqq at e
  split at e
  · rename_i hp
    obtain ⟨h1, h2⟩ := plain_scal hp r1 r2
    cases e
    exact op_eq pins s σ H x y v u Q I rx ry ⟨h1, by rw [h2]; exact q⟩
  · split at e
    · rename_i d1 d2 e1 e2
      obtain ⟨a1, a2, a3⟩ := dp_of S 20 r1 e1
      obtain ⟨b1, b2, b3⟩ := dp_of S 20 r2 e2
      cases e
      rw [hK] at a1 b1
      exact op_eqD hu pins s σ H x y v u Q I rx ry ⟨d1, d2, a1, b1, shape_of a2 a3, shape_of b2 b3, q⟩
    · cases e
theorem ne_ok (hK : G.K = X.K) (hu : X.A.units + 64 < cLine) : OpR X (compareOp .NotEq) (T2 G fun h x y => (eqq h x y).map (!·)) := by
  rintro pins s σ H x y v u Q I rx ry ⟨j, h, v1, v2, b, S, r1, r2, e, q0⟩
  have q := q0 H .refl S
  dsimp only at e
  unfold eqq at e
  split at e
  · rename_i hp
    obtain ⟨h1, h2⟩ := plain_scal hp r1 r2
    cases e
    exact op_ne pins s σ H x y v u Q I rx ry ⟨h1, by rw [h2]; exact q⟩
  · split at e
    · rename_i d1 d2 e1 e2
      obtain ⟨a1, a2, a3⟩ := dp_of S 20 r1 e1
      obtain ⟨b1, b2, b3⟩ := dp_of S 20 r2 e2
      cases e
      rw [hK] at a1 b1
      exact op_neD hu pins s σ H x y v u Q I rx ry ⟨d1, d2, a1, b1, shape_of a2 a3, shape_of b2 b3, q⟩
    · cases e
end
end Dl
set_option Elab.async false
set_option linter.all false
set_option maxRecDepth 100000
set_option maxHeartbeats 1000000
/-! Dicts, in, order, items and slices by values. -/
namespace Dl
open PySem PySem.Spec PyProof.Rows L2
/-! ### keys -/
theorem keyV_rel {G : Gd} {j : List Addr} {H : Hp} {v : Va} {k : Key} {x : V} (e : keyV v = some k) (r : RV G j H v x) : x = kV k := by
  cases v with
  | int i => cases e; exact r.intE
  | str i => cases e; exact r.strE
  | _ => cases e
theorem kOk_key {v : Va} (e : kOk v = true) : ∃ k, keyV v = some k := by
  cases v with
  | int i => exact ⟨_, rfl⟩
  | str i => exact ⟨_, rfl⟩
  | _ => cases e
theorem key_kOk {v : Va} {k : Key} (e : keyV v = some k) : kOk v = true := by
  cases v with
  | int i => rfl
  | str i => rfl
  | _ => cases e
theorem keyV_inj {v w : Va} {k : Key} (e : keyV v = some k) (e' : keyV w = some k) : v = w := by
  cases v with
  | int i =>
    cases e
    cases w with
    | int i => cases e'; rfl
    | str i => cases e'
    | _ => cases e'
  | str i =>
    cases e
    cases w with
    | int i => cases e'
    | str i => cases e'; rfl
    | _ => cases e'
  | _ => cases e
theorem keysV_inj : ∀ {v w : List Va} {k : List Key}, allO (v.map keyV) = some k → allO (w.map keyV) = some k → v = w
  | [], [], _, _, _ => rfl
  | [], b :: w, _, e, e' => by
    cases e
    rw [List.map_cons] at e'
    obtain ⟨_, _, _, _, z⟩ := allO_cons e'
    cases z
  | a :: v, [], _, e, e' => by
    cases e'
    rw [List.map_cons] at e
    obtain ⟨_, _, _, _, z⟩ := allO_cons e
    cases z
  | a :: v, b :: w, _, e, e' => by
    rw [List.map_cons] at e e'
    obtain ⟨y, r, e1, e2, rfl⟩ := allO_cons e
    obtain ⟨y', r', f1, f2, z⟩ := allO_cons e'
    cases z
    rw [keyV_inj e1 f1, keysV_inj e2 f2]
theorem keyT_tup {gl : List Va} {v : Va} {k : List Key} (e : keyT gl v = some k) : ∃ l, v = .tup l ∧ Va.tup l ∉ gl ∧ allO (l.map keyV) = some k := by
  cases v with
  | tup l =>
    unfold keyT at e
    dsimp only at e
    by_cases n : Va.tup l ∈ gl
    · rw [if_pos n] at e
      cases e
    · rw [if_neg n] at e
      exact ⟨l, rfl, n, e⟩
  | _ => cases e
theorem keyT_inj {gl : List Va} {v w : Va} {k : List Key} (e : keyT gl v = some k) (e' : keyT gl w = some k) : v = w := by
  obtain ⟨l, rfl, _, h1⟩ := keyT_tup e
  obtain ⟨m, rfl, _, h2⟩ := keyT_tup e'
  rw [keysV_inj h1 h2]
theorem keys_rel {G : Gd} {j : List Addr} {H : Hp} : ∀ {l : List Va} {ks : List Key} {xs : List V}, allO (l.map keyV) = some ks → RVs G j H l xs → xs = ks.map kV
  | [], _, _, e, r => by
    cases e
    exact r.nilE
  | v :: l, _, _, e, r => by
    rw [List.map_cons] at e
    obtain ⟨k, ks, e1, e2, rfl⟩ := allO_cons e
    obtain ⟨w, ws, rfl, r1, r2⟩ := r.consE
    rw [keyV_rel e1 r1, keys_rel e2 r2]
    rfl
theorem kTup_key {gl : List Va} {v : Va} (e : kTup gl v = true) : ∃ k, keyT gl v = some k := by
  cases v with
  | tup l =>
    unfold kTup at e
    rw [Bool.and_eq_true, decide_eq_true_iff] at e
    have : ∀ l : List Va, l.all kOk = true → ∃ k, allO (l.map keyV) = some k := by
      intro l
      induction l with
      | nil => exact fun _ => ⟨_, rfl⟩
      | cons a l ih =>
        intro h
        rw [List.all_cons, Bool.and_eq_true] at h
        obtain ⟨k, hk⟩ := kOk_key h.1
        obtain ⟨ks, hks⟩ := ih h.2
        exact ⟨k :: ks, by simp [allO, hk, hks]⟩
    obtain ⟨k, hk⟩ := this l e.1
    exact ⟨k, by unfold keyT; dsimp only; rw [if_neg e.2]; exact hk⟩
  | _ => cases e
theorem key_kTup {gl : List Va} {v : Va} {k : List Key} (e : keyT gl v = some k) : kTup gl v = true := by
  obtain ⟨l, rfl, n, h⟩ := keyT_tup e
  have : ∀ (l : List Va) (k : List Key), allO (l.map keyV) = some k → l.all kOk = true := by
    intro l
    induction l with
    | nil => exact fun _ _ => rfl
    | cons a l ih =>
      intro k e
      rw [List.map_cons] at e
      obtain ⟨y, r, e1, e2, rfl⟩ := allO_cons e
      rw [List.all_cons, key_kOk e1, ih _ e2]
      rfl
  unfold kTup
  dsimp only
  rw [this l k h, Bool.true_and, decide_eq_true_iff]
  exact n
/-- the key's own tuple -/
theorem keyT_rel {G : Gd} {j : List Addr} {H : Hp} {v : Va} {k : List Key} {x : V} (e : keyT G.gl v = some k) (r : RV G j H v x) : ∃ b, x = .ref b ∧ H b = some (.tup (k.map kV)) := by
  obtain ⟨l, rfl, n, h⟩ := keyT_tup e
  cases r with
  | tup e1 r1 => exact ⟨_, rfl, by rw [e1, keys_rel h r1]⟩
  | ktup m _ _ => exact absurd m n
/-! ### entries -/
theorem dget_val {κ : Type} [DecidableEq κ] {G : Gd} {j : List Addr} {H : Hp} {key : Va → Option κ} (inj : ∀ {a b k}, key a = some k → key b = some k → a = b) {v : Va} {k : κ} (ek : key v = some k) :
    ∀ {l : List (Va × Va)} {ks : List (κ × V)}, Paired (fun p q => key p.1 = some q.1 ∧ RV G j H p.2 q.2) l ks →
      (dget l v = none ∧ valV ks k = none) ∨ ∃ a b, dget l v = some a ∧ valV ks k = some b ∧ RV G j H a b
  | _, _, .nil => .inl ⟨rfl, rfl⟩
  | p :: l, q :: ks, .cons h r => by
    by_cases e : p.1 = v
    · have e2 : q.1 = k := by
        have := h.1
        rw [e, ek] at this
        exact (Option.some.inj this).symm
      exact .inr ⟨p.2, q.2, by simp [dget, List.find?_cons, e], valV_pos e2, h.2⟩
    · have e2 : ¬ q.1 = k := fun z => e (inj h.1 (z ▸ ek))
      have := dget_val inj ek r
      have n1 : dget (p :: l) v = dget l v := by simp [dget, List.find?_cons, e]
      rw [n1, valV_neg e2]
      exact this
theorem any_key {κ : Type} [DecidableEq κ] {G : Gd} {j : List Addr} {H : Hp} {key : Va → Option κ} (inj : ∀ {a b k}, key a = some k → key b = some k → a = b) {v : Va} {k : κ} (ek : key v = some k) :
    ∀ {l : List (Va × Va)} {ks : List (κ × V)}, Paired (fun p q => key p.1 = some q.1 ∧ RV G j H p.2 q.2) l ks → (l.any fun p => decide (p.1 = v)) = (ks.any fun p => decide (p.1 = k))
  | _, _, .nil => rfl
  | p :: l, q :: ks, .cons h r => by
    rw [List.any_cons, List.any_cons, any_key inj ek r]
    congr 1
    by_cases e : p.1 = v
    · have e2 : q.1 = k := by
        have := h.1
        rw [e, ek] at this
        exact (Option.some.inj this).symm
      simp [e, e2]
    · have e2 : ¬ q.1 = k := fun z => e (inj h.1 (z ▸ ek))
      simp [e, e2]
theorem Paired.snoc {α β : Type} {F : α → β → Prop} {a : α} {b : β} (h : F a b) : ∀ {l : List α} {m : List β}, Paired F l m → Paired F (l ++ [a]) (m ++ [b])
  | _, _, .nil => .cons h .nil
  | _, _, .cons x r => .cons x (Paired.snoc h r)
theorem dput_put {κ : Type} [DecidableEq κ] {G : Gd} {j : List Addr} {H : Hp} {key : Va → Option κ} (inj : ∀ {a b k}, key a = some k → key b = some k → a = b) {v w : Va} {k : κ} {y : V} (ek : key v = some k) (rw' : RV G j H w y)
    {l : List (Va × Va)} {ks : List (κ × V)} (r : Paired (fun p q => key p.1 = some q.1 ∧ RV G j H p.2 q.2) l ks) : Paired (fun p q => key p.1 = some q.1 ∧ RV G j H p.2 q.2) (dput l v w) (putK ks k y) := by
  unfold dput putK
  rw [any_key inj ek r]
  generalize (ks.any fun p => decide (p.1 = k)) = bb
  cases bb with
  | true =>
    rw [if_pos rfl, if_pos rfl]
    induction r with
    | nil => exact .nil
    | @cons p q l ks h r ih =>
      rw [List.map_cons, List.map_cons]
      refine .cons ?_ ih
      by_cases e : p.1 = v
      · have e2 : q.1 = k := by
          have := h.1
          rw [e, ek] at this
          exact (Option.some.inj this).symm
        rw [if_pos e, if_pos e2]
        exact ⟨h.1, rw'⟩
      · have e2 : ¬ q.1 = k := fun z => e (inj h.1 (z ▸ ek))
        rw [if_neg e, if_neg e2]
        exact h
  | false =>
    rw [if_neg (by decide), if_neg (by decide)]
    exact Paired.snoc ⟨ek, rw'⟩ r
section
variable {X : Cx} {G : Gd} {pins : List (Addr × Obj)} {σ : L2.St} {j : List Addr} {H : Hp} {h : Store} {s : Shared} {x y : V} {u v : Value} {a : Addr}
/-! ### an empty dict is of both kinds -/
theorem toT (I : Inv X pins σ H s) (e : H a = some (.dK [])) : Inv X pins σ (upd H a (.dT [])) s := by
  obtain ⟨z, hd, vs, rel, o, es, ep, ho, h1, h2, h3, h4, h5⟩ := dk_of I.hok e
  have e0 : vs = [] := by cases rel; rfl
  subst e0
  have es0 : es.toList = [] := by
    cases hes : es.toList with
    | nil => rfl
    | cons p r => rw [hes] at h4; cases h4
  exact d_write (t' := s.toks) I (by rw [e]; exact True.intro) (Heap.SameBut.refl _ _) ⟨o, ho⟩ ⟨Nat.zero_le _, hd, [], .nil, o, es, ep, ho, h1, h2, by rw [es0]; rfl, List.nodup_nil⟩
theorem toK (I : Inv X pins σ H s) (e : H a = some (.dT [])) : Inv X pins σ (upd H a (.dK [])) s := by
  obtain ⟨z, hd, xs, rel, o, es, ep, ho, h1, h2, h3, h4, h5⟩ := dt_of I.hok e
  have e0 : xs = [] := by cases rel; rfl
  subst e0
  have es0 : es = #[] := by
    cases es
    simpa using h3
  subst es0
  exact d_write (t' := s.toks) I (by rw [e]; exact True.intro) (Heap.SameBut.refl _ _) ⟨o, ho⟩ ⟨Nat.zero_le _, hd, [], .nil, Heap.DictOf.at (h := s.heap) ⟨o, #[], ep, ho, h1, h2, (fun e q => by simp at q), .nil, List.nodup_nil⟩ fun o q => q⟩
/-- what a dict of the store is, a key of its kind -/
theorem dct_key (I : Inv X pins σ H s) (S : Sto G j h H) {n : Nat} {l : List (Va × Va)} (e : j[n]? = some a) (q : h[n]? = some (.dct l)) {k : Va} (f : kFit G.gl l k = true) (rk : RV G j H k y) :
    ∃ H', Inv X pins σ H' s ∧ Ext j H j H' ∧ Sto G j h H' ∧
      ((dget l k = none ∧ DGet H' a y none) ∨ ∃ v w, dget l k = some v ∧ RV G j H' v w ∧ DGet H' a y (some w)) := by
  have r := S.ob n a _ e q
  have keep : ∃ H', Inv X pins σ H' s ∧ Ext j H j H' ∧ Sto G j h H' ∧
      ((∃ ks k', H' a = some (.dK ks) ∧ keyV k = some k' ∧ Paired (fun p q => keyV p.1 = some q.1 ∧ RV G j H' p.2 q.2) l ks) ∨ ∃ ks k', H' a = some (.dT ks) ∧ keyT G.gl k = some k' ∧ Paired (fun p q => keyT G.gl p.1 = some q.1 ∧ RV G j H' p.2 q.2) l ks) := by
    unfold kFit at f
    rw [Bool.or_eq_true, Bool.and_eq_true, Bool.and_eq_true] at f
    rcases f with ⟨fk, fl⟩ | ⟨fk, fl⟩
    · obtain ⟨k', hk⟩ := kOk_key fk
      rcases r with ⟨ks, ha, p⟩ | ⟨ks, ha, p⟩
      · exact ⟨H, I, .refl, S, .inl ⟨ks, k', ha, hk, p⟩⟩
      · have l0 : l = [] ∧ ks = [] := by
          cases p with
          | nil => exact ⟨rfl, rfl⟩
          | @cons p0 q0 _ _ h1 _ =>
            rw [List.all_cons, Bool.and_eq_true] at fl
            obtain ⟨_, z, _, _⟩ := keyT_tup h1.1
            rw [z] at fl
            exact absurd fl.1 (by simp [kOk])
        obtain ⟨rfl, rfl⟩ := l0
        refine ⟨_, toK I ha, Ext.put S e, ?_, .inl ⟨[], k', upd_same, hk, .nil⟩⟩
        have := S.put (u := .dK []) (o := .dct []) e (.inl ⟨[], upd_same, .nil⟩)
        rwa [show h.set n (.dct []) = h from List.ext_getElem? fun i => by
          by_cases hi : i = n
          · subst hi
            rw [List.getElem?_set_self (List.getElem?_eq_some_iff.mp q).1, q]
          · rw [List.getElem?_set_ne (Ne.symm hi)]] at this
    · obtain ⟨k', hk⟩ := kTup_key fk
      rcases r with ⟨ks, ha, p⟩ | ⟨ks, ha, p⟩
      · have l0 : l = [] ∧ ks = [] := by
          cases p with
          | nil => exact ⟨rfl, rfl⟩
          | @cons p0 q0 _ _ h1 _ =>
            rw [List.all_cons, Bool.and_eq_true] at fl
            obtain ⟨z, hz⟩ := kTup_key fl.1
            obtain ⟨_, z, _, _⟩ := keyT_tup hz
            rw [z] at h1
            exact absurd h1.1 (by intro w; cases w)
        obtain ⟨rfl, rfl⟩ := l0
        refine ⟨_, toT I ha, Ext.put S e, ?_, .inr ⟨[], k', upd_same, hk, .nil⟩⟩
        have := S.put (u := .dT []) (o := .dct []) e (.inr ⟨[], upd_same, .nil⟩)
        rwa [show h.set n (.dct []) = h from List.ext_getElem? fun i => by
          by_cases hi : i = n
          · subst hi
            rw [List.getElem?_set_self (List.getElem?_eq_some_iff.mp q).1, q]
          · rw [List.getElem?_set_ne (Ne.symm hi)]] at this
      · exact ⟨H, I, .refl, S, .inr ⟨ks, k', ha, hk, p⟩⟩
  obtain ⟨H', I', ex, S', ⟨ks, k', ha, hk, p⟩ | ⟨ks, k', ha, hk, p⟩⟩ := keep
  · have ey := keyV_rel hk rk
    subst ey
    refine ⟨H', I', ex, S', ?_⟩
    rcases dget_val keyV_inj hk p with ⟨h1, h2⟩ | ⟨v, w, h1, h2, h3⟩
    · exact .inl ⟨h1, by rw [← h2]; exact DGet.k ha⟩
    · exact .inr ⟨v, w, h1, h3, by rw [← h2]; exact DGet.k ha⟩
  · obtain ⟨b, ey, hb⟩ := keyT_rel hk (rk.mono ex)
    subst ey
    refine ⟨H', I', ex, S', ?_⟩
    rcases dget_val keyT_inj hk p with ⟨h1, h2⟩ | ⟨v, w, h1, h2, h3⟩
    · exact .inl ⟨h1, by rw [← h2]; exact DGet.t ha hb⟩
    · exact .inr ⟨v, w, h1, h3, by rw [← h2]; exact DGet.t ha hb⟩
/-- d[k] = v -/
theorem dct_put (I : Inv X pins σ H s) (S : Sto G j h H) {n : Nat} {l : List (Va × Va)} (e : j[n]? = some a) (q : h[n]? = some (.dct l)) {k w : Va} {z : V} (f : kFit G.gl l k = true) (hl : l.length < sizeLine) (rk : RV G j H k y) (rz : RV G j H w z) :
    ∃ H' H'', Inv X pins σ H' s ∧ Ext j H j H'' ∧ Sto G j (h.set n (.dct (dput l k w))) H'' ∧ DPut H' a y z H'' := by
  obtain ⟨H', I', ex, S', _⟩ := dct_key I S e q f rk
  have r := S'.ob n a _ e q
  unfold kFit at f
  rw [Bool.or_eq_true, Bool.and_eq_true, Bool.and_eq_true] at f
  have fin : ∀ {u : HO}, (∀ {j' H2}, Ext j H' j' H2 → H2 a = some u → RO G j' H2 a (.dct (dput l k w))) → DPut H' a y z (upd H' a u) →
      ∃ H' H'', Inv X pins σ H' s ∧ Ext j H j H'' ∧ Sto G j (h.set n (.dct (dput l k w))) H'' ∧ DPut H' a y z H'' := fun {u} ro d =>
    ⟨H', _, I', ex.trans (Ext.put S' e), S'.put e (ro (Ext.put S' e) upd_same), d⟩
  have rz' := rz.mono ex
  rcases r with ⟨ks, ha, p⟩ | ⟨ks, ha, p⟩
  · cases hk : keyV k with
    | some k' =>
      have ey := keyV_rel hk rk
      subst ey
      refine fin (u := .dK (putK ks k' z)) (fun e2 h2 => .inl ⟨_, h2, dput_put keyV_inj hk (rz'.mono e2) (Paired.imp' p fun _ _ c => ⟨c.1, c.2.mono e2⟩)⟩) (DPut.k ha (by rw [← Paired.length p]; exact hl))
    | none =>
      -- a dict with a text key among its keys takes no tuple
      rcases f with ⟨fk, _⟩ | ⟨fk, fl⟩
      · obtain ⟨k', z2⟩ := kOk_key fk
        rw [hk] at z2
        cases z2
      · have l0 : l = [] ∧ ks = [] := by
          cases p with
          | nil => exact ⟨rfl, rfl⟩
          | @cons p0 q0 _ _ h1 _ =>
            rw [List.all_cons, Bool.and_eq_true] at fl
            obtain ⟨z, hz⟩ := kTup_key fl.1
            obtain ⟨_, z, _, _⟩ := keyT_tup hz
            rw [z] at h1
            exact absurd h1.1 (by intro w; cases w)
        obtain ⟨rfl, rfl⟩ := l0
        obtain ⟨k', hk'⟩ := kTup_key fk
        have I2 := toT I' ha
        have ex2 : Ext j H' j (upd H' a (.dT [])) := Ext.put S' e
        obtain ⟨b, ey, hb⟩ := keyT_rel hk' ((rk.mono ex).mono ex2)
        subst ey
        have d := DPut.t (H := upd H' a (.dT [])) (v := z) (k := k') (kvs := []) upd_same hb (by exact hl)
        rw [upd_upd] at d
        refine ⟨_, _, I2, ex.trans (Ext.put S' e), S'.put e ?_, d⟩
        exact .inr ⟨_, upd_same, dput_put keyT_inj hk' (rz'.mono (Ext.put S' e)) .nil⟩
  · cases hk : keyT G.gl k with
    | some k' =>
      obtain ⟨b, ey, hb⟩ := keyT_rel hk (rk.mono ex)
      subst ey
      refine fin (u := .dT (putK ks k' z)) (fun e2 h2 => .inr ⟨_, h2, dput_put keyT_inj hk (rz'.mono e2) (Paired.imp' p fun _ _ c => ⟨c.1, c.2.mono e2⟩)⟩) (DPut.t ha hb (by rw [← Paired.length p]; exact hl))
    | none =>
      rcases f with ⟨fk, fl⟩ | ⟨fk, _⟩
      · have l0 : l = [] ∧ ks = [] := by
          cases p with
          | nil => exact ⟨rfl, rfl⟩
          | @cons p0 q0 _ _ h1 _ =>
            rw [List.all_cons, Bool.and_eq_true] at fl
            obtain ⟨_, z, _, _⟩ := keyT_tup h1.1
            rw [z] at fl
            exact absurd fl.1 (by simp [kOk])
        obtain ⟨rfl, rfl⟩ := l0
        obtain ⟨k', hk'⟩ := kOk_key fk
        have I2 := toK I' ha
        have ey := keyV_rel hk' rk
        subst ey
        have d := DPut.k (H := upd H' a (.dK [])) (v := z) (k := k') (kvs := []) upd_same (by exact hl)
        rw [upd_upd] at d
        refine ⟨_, _, I2, ex.trans (Ext.put S' e), S'.put e ?_, d⟩
        exact .inl ⟨_, upd_same, dput_put keyV_inj hk' (rz'.mono (Ext.put S' e)) .nil⟩
      · obtain ⟨k', z2⟩ := kTup_key fk
        rw [hk] at z2
        cases z2
end
end Dl
set_option Elab.async false
set_option linter.all false
set_option maxRecDepth 100000
set_option maxHeartbeats 1000000
/-! in, order, items and slices by values. -/
namespace Dl
open PySem PySem.Spec PyProof.Rows L2
section
variable {X : Cx} {G : Gd} {pins : List (Addr × Obj)} {σ : L2.St} {j : List Addr} {H : Hp} {h : Store} {s : Shared} {x y : V} {u v : Value} {a : Addr}
/-! ### in -/
theorem flat_of {v : Va} {x : V} (r : RV G j H v x) (f : flat v = true) : flatV x = true := by
  cases v with
  | non => cases r.nonE; rfl
  | bl b => cases r.blE; rfl
  | int b => cases r.intE; rfl
  | str b => cases r.strE; rfl
  | _ => cases f
theorem flats_of : ∀ {l : List Va} {xs : List V}, RVs G j H l xs → l.all flat = true → xs.all flatV = true
  | _, _, .nil, _ => rfl
  | _, _, .cons r q, f => by
    rw [List.all_cons, Bool.and_eq_true] at f ⊢
    exact ⟨flat_of r f.1, flats_of q f.2⟩
theorem eqF_of {v w : Va} {x y : V} (r : RV G j H v x) (q : RV G j H w y) : flat v = true → flat w = true → eqV x y = eqF v w := by
  intro f1 f2
  cases v with
  | non =>
    cases r.nonE
    cases w with
    | non => cases q.nonE; rfl
    | bl b => cases q.blE; rfl
    | int b => cases q.intE; rfl
    | str b => cases q.strE; rfl
    | _ => cases f2
  | bl a =>
    cases r.blE
    cases w with
    | non => cases q.nonE; rfl
    | bl b => cases q.blE; rfl
    | int b => cases q.intE; rfl
    | str b => cases q.strE; rfl
    | _ => cases f2
  | int a =>
    cases r.intE
    cases w with
    | non => cases q.nonE; rfl
    | bl b => cases q.blE; rfl
    | int b => cases q.intE; rfl
    | str b => cases q.strE; rfl
    | _ => cases f2
  | str a =>
    cases r.strE
    cases w with
    | non => cases q.nonE; rfl
    | bl b => cases q.blE; rfl
    | int b => cases q.intE; rfl
    | str b => cases q.strE; rfl
    | _ => cases f2
  | _ => cases f1
theorem inV_of {v : Va} {x : V} (r : RV G j H v x) (f : flat v = true) : ∀ {l : List Va} {xs : List V}, RVs G j H l xs → l.all flat = true → inV x xs = l.any fun w => eqF w v
  | _, _, .nil, _ => rfl
  | _, _, .cons q t, g => by
    rw [List.all_cons, Bool.and_eq_true] at g
    have ih := inV_of r f t g.2
    unfold inV at ih ⊢
    rw [List.any_cons, List.any_cons, ih, eqF_of q r g.1 f]
def T2g (G : Gd) (f : List Va → Store → Va → Va → Option Bool) : R2 := T2 G (f G.gl)
theorem in_ok (hK : G.K = X.K) (hu : X.A.units + 64 < cLine) : OpR X (compareOp .In) (T2g G inn) := by
  rintro pins s σ H x y v u Q I rx ry ⟨j, h, v1, v2, b, S, r1, r2, e, q0⟩
  have q := q0 H .refl S
  have seq : ∀ {p : Addr} {l : List Va} {xs : List V}, y = .ref p → (SqL X.K H p xs ∨ SqT X.K H p xs) → RVs G j H l xs → (if (flat v1 && l.all flat) = true then some (l.any fun w => eqF w v1) else none) = some b →
      wpAny (model X.prog X.w) X.A (compareOp .In v u) (EP X pins σ Q) X.xe s := fun {p l xs} ey hq rl e => by
    split at e
    · rename_i f
      rw [Bool.and_eq_true] at f
      cases e
      refine op_in_seq pins s σ H x y v u Q I rx ry ⟨p, xs, ey, hq, flat_of r1 f.1, flats_of rl f.2, ?_⟩
      rw [if_neg (by decide), inV_of r1 f.1 rl f.2]
      exact q
    · cases e
  unfold inn at e
  split at e
  · rename_i z
    cases r2.strE
    split at e
    · rename_i t
      cases r1.strE
      split at e
      · rename_i c hc
        cases e
        refine op_in_sign pins s σ H _ _ v u Q I rx ry ⟨c, z, ?_, rfl, q⟩
        obtain ⟨⟨l⟩⟩ := t
        simp at hc
        rw [hc]
      · cases e
    · cases e
  · rename_i n
    obtain ⟨a, rfl, e1⟩ := r2.refA
    split at e
    · rename_i l hl
      split at e
      · rename_i f
        cases e
        cases ry
        obtain ⟨H', I', ex, S', d⟩ := dct_key I S e1 hl f r1
        rcases d with ⟨d1, d2⟩ | ⟨w, z, d1, d2, d3⟩
        · exact d_in (by omega) I' d2 rx fun s' I2 => ⟨.bl false, H', I2, rfl, by rw [d1] at q0; exact q0 H' ex S'⟩
        · exact d_in (by omega) I' d3 rx fun s' I2 => ⟨.bl true, H', I2, rfl, by rw [d1] at q0; exact q0 H' ex S'⟩
      · cases e
    · rename_i l hl
      obtain ⟨xs, h1, rl⟩ := S.lst e1 hl
      exact seq rfl (.inl (SqL.of h1)) rl e
    · cases e
  · obtain ⟨a, xs, rfl, q1, rl⟩ := r2.tupT
    exact seq rfl (.inr (hK ▸ q1)) rl e
  · obtain ⟨a, xs, rfl, q1, rl⟩ := r2.rlL
    exact seq rfl (.inl (hK ▸ q1)) rl e
  · cases e
theorem nin_ok (hK : G.K = X.K) (hu : X.A.units + 64 < cLine) : OpR X (compareOp .NotIn) (T2g G fun gl h x y => (inn gl h x y).map (!·)) := by
  rintro pins s σ H x y v u Q I rx ry ⟨j, h, v1, v2, b, S, r1, r2, e, q0⟩
  have q := q0 H .refl S
  have seq : ∀ {p : Addr} {l : List Va} {xs : List V}, y = .ref p → (SqL X.K H p xs ∨ SqT X.K H p xs) → RVs G j H l xs → (Option.map (!·) (if (flat v1 && l.all flat) = true then some (l.any fun w => eqF w v1) else none)) = some b →
      wpAny (model X.prog X.w) X.A (compareOp .NotIn v u) (EP X pins σ Q) X.xe s := fun {p l xs} ey hq rl e => by
    split at e
    · rename_i f
      rw [Bool.and_eq_true] at f
      cases e
      refine op_notIn_seq pins s σ H x y v u Q I rx ry ⟨p, xs, ey, hq, flat_of r1 f.1, flats_of rl f.2, ?_⟩
      rw [if_pos rfl, inV_of r1 f.1 rl f.2]
      exact q
    · cases e
  dsimp only at e
  unfold inn at e
  split at e
  · rename_i z
    cases r2.strE
    split at e
    · rename_i t
      cases r1.strE
      split at e
      · rename_i c hc
        cases e
        refine op_notIn_sign pins s σ H _ _ v u Q I rx ry ⟨c, z, ?_, rfl, q⟩
        obtain ⟨⟨l⟩⟩ := t
        simp at hc
        rw [hc]
      · cases e
    · cases e
  · rename_i n
    obtain ⟨a, rfl, e1⟩ := r2.refA
    split at e
    · rename_i l hl
      split at e
      · rename_i f
        cases e
        cases ry
        obtain ⟨H', I', ex, S', d⟩ := dct_key I S e1 hl f r1
        rcases d with ⟨d1, d2⟩ | ⟨w, z, d1, d2, d3⟩
        · exact d_notIn (by omega) I' d2 rx fun s' I2 => ⟨.bl (!false), H', I2, rfl, by rw [d1] at q0; exact q0 H' ex S'⟩
        · exact d_notIn (by omega) I' d3 rx fun s' I2 => ⟨.bl (!true), H', I2, rfl, by rw [d1] at q0; exact q0 H' ex S'⟩
      · cases e
    · rename_i l hl
      obtain ⟨xs, h1, rl⟩ := S.lst e1 hl
      exact seq rfl (.inl (SqL.of h1)) rl e
    · cases e
  · obtain ⟨a, xs, rfl, q1, rl⟩ := r2.tupT
    exact seq rfl (.inr (hK ▸ q1)) rl e
  · obtain ⟨a, xs, rfl, q1, rl⟩ := r2.rlL
    exact seq rfl (.inl (hK ▸ q1)) rl e
  · cases e
/-! ### order -/
def Cop.py : Cop → CmpOp
  | .eq => .Eq
  | .ne => .NotEq
  | .lt => .Lt
  | .le => .LtE
  | .gt => .Gt
  | .ge => .GtE
  | .isN => .Is
  | .notN => .IsNot
  | .inn => .In
  | .nin => .NotIn
theorem non_of {v : Va} {x : V} (r : RV G j H v x) : decide (x = .non) = decide (v = .non) := by
  cases r <;> simp
theorem cmp_ok (hK : G.K = X.K) (hu : X.A.units + 64 < cLine) (o : Cop) : OpR X (compareOp o.py) (T2g G fun gl => cmpo gl o) := by
  rintro pins s σ H x y v u Q I rx ry ⟨j, h, v1, v2, b, S, r1, r2, e, q0⟩
  have q := q0 H .refl S
  have go : ∀ {r : R2}, OpR X (compareOp o.py) r → r x y H Q → wpAny (model X.prog X.w) X.A (compareOp o.py v u) (EP X pins σ Q) X.xe s := fun ho q => ho pins s σ H x y v u Q I rx ry q
  unfold cmpo at e
  cases o with
  | eq => exact go (eq_ok hK hu) ⟨j, h, v1, v2, b, S, r1, r2, e, q0⟩
  | ne => exact go (ne_ok hK hu) ⟨j, h, v1, v2, b, S, r1, r2, e, q0⟩
  | lt =>
    dsimp only at e
    split at e
    · cases r1.intE
      cases r2.intE
      cases e
      exact go op_lt ⟨_, _, rfl, rfl, q⟩
    · cases r1.strE
      cases r2.strE
      cases e
      exact go op_lt_str ⟨_, _, rfl, rfl, q⟩
    · cases e
  | le =>
    dsimp only at e
    split at e
    · cases r1.intE
      cases r2.intE
      cases e
      exact go op_le ⟨_, _, rfl, rfl, q⟩
    · cases e
  | gt =>
    dsimp only at e
    split at e
    · cases r1.intE
      cases r2.intE
      cases e
      exact go op_gt ⟨_, _, rfl, rfl, q⟩
    · cases e
  | ge =>
    dsimp only at e
    split at e
    · cases r1.intE
      cases r2.intE
      cases e
      exact go op_ge ⟨_, _, rfl, rfl, q⟩
    · cases e
  | isN =>
    dsimp only at e
    split at e
    · rename_i hn
      subst hn
      cases r2.nonE
      cases e
      exact go op_isN ⟨rfl, by rw [non_of r1]; exact q⟩
    · cases e
  | notN =>
    dsimp only at e
    split at e
    · rename_i hn
      subst hn
      cases r2.nonE
      cases e
      exact go op_notN ⟨rfl, by rw [non_of r1]; exact q⟩
    · cases e
  | inn => exact go (in_ok hK hu) ⟨j, h, v1, v2, b, S, r1, r2, e, q0⟩
  | nin => exact go (nin_ok hK hu) ⟨j, h, v1, v2, b, S, r1, r2, e, q0⟩
/-! ### items -/
theorem ixN_eq : ixN = L2.ixN := rfl
theorem atI_of {α β : Type} {F : α → β → Prop} {l : List α} {m : List β} (hl : l.length = m.length) (hg : ∀ (i : Nat) (v : α), l[i]? = some v → ∃ w, m[i]? = some w ∧ F v w) {i : Int} {v : α} (e : atI l i = some v) : ∃ w, L2.atI m i = some w ∧ F v w := by
  unfold atI at e
  unfold L2.atI
  rw [← hl, ← ixN_eq]
  cases k : ixN l.length i with
  | none => rw [k] at e; cases e
  | some n =>
    rw [k] at e
    obtain ⟨w, h1, h2⟩ := hg n v e
    exact ⟨w, h1, h2⟩
/-- a list's, a tuple's, a text's item -/
theorem ix_ok (hK : G.K = X.K) : IxR X (fun x y H Q => ∃ j h v1 v2 w, Sto G j h H ∧ RV G j H v1 x ∧ RV G j H v2 y ∧ (∀ n l, v1 = .ref n → h[n]? ≠ some (.dct l)) ∧ item G.gl h v1 v2 = some w ∧ ∀ z, RV G j H w z → Q z H) := by
  rintro value slice pins s σ H x y v u Q I rx ry ⟨j, h, v1, v2, w, S, r1, r2, nd, e, q⟩ hs
  refine ix_seq value slice pins s σ H x y v u Q I rx ry ?_ hs
  rw [← hK]
  unfold item at e
  split at e
  · obtain ⟨a, xs, rfl, q1, rl⟩ := r1.tupT
    split at e
    · cases r2.intE
      obtain ⟨z, h1, h2⟩ := atI_of rl.length (fun i v => rl.get) e
      exact .inr (.inl ⟨a, xs, _, z, rfl, rfl, q1, h1, q z h2⟩)
    · cases e
  · obtain ⟨a, xs, rfl, q1, rl⟩ := r1.rlL
    split at e
    · cases r2.intE
      obtain ⟨z, h1, h2⟩ := atI_of rl.length (fun i v => rl.get) e
      exact .inl ⟨a, xs, _, z, rfl, rfl, q1, h1, q z h2⟩
    · cases e
  · cases r1.strE
    split at e
    · cases r2.intE
      split at e
      · rename_i hz
        obtain ⟨c, hc, ec⟩ := Option.map_eq_some_iff.mp e
        subst ec
        exact .inr (.inr ⟨_, _, c, rfl, rfl, hz, hc, q _ (.str _)⟩)
      · cases e
    · cases e
  · rename_i n
    obtain ⟨a, rfl, e1⟩ := r1.refA
    split at e
    · rename_i l hl
      obtain ⟨xs, h1, rl⟩ := S.lst e1 hl
      split at e
      · cases r2.intE
        obtain ⟨z, h3, h2⟩ := atI_of rl.length (fun i v => rl.get) e
        exact .inl ⟨a, xs, _, z, rfl, rfl, SqL.of h1, h3, q z h2⟩
      · cases e
    · rename_i l hl
      exact absurd hl (nd n l rfl)
    · cases e
  · cases e
end
end Dl
set_option Elab.async false
set_option linter.all false
set_option maxRecDepth 100000
set_option maxHeartbeats 4000000
/-! Sorting of what is alike, and of tuples with unlike first numbers. -/
namespace Dl
open PySem PySem.Spec PyProof.Rows PySem.W
/-! ### the order of values is the order of data -/
theorem allO_nil {α : Type} {l : List α} (e : allO ([] : List (Option α)) = some l) : l = [] := by
  unfold allO at e
  cases e
  rfl
section
variable {h : Store}
theorem lex_ne (x : PyData) (xs : List PyData) : lexLt itemOrd (keyToksAll []) (keyToksAll (x :: xs)) = true ∧ lexLt itemOrd (keyToksAll (x :: xs)) (keyToksAll []) = false := by
  constructor
  · rw [toks_all_cons]
    simp only [keyToksAll]
    rw [lex_diff (O := itemOrd) (by simp)] <;> rfl
  · rw [toks_all_cons]
    simp only [keyToksAll]
    rw [lex_diff (O := itemOrd) (by simp)] <;> rfl
mutual
theorem al_dat : ∀ (x y : Va) (n m : Nat) (d e : PyData), alikeV x y = true → dat h n x = some d → dat h m y = some e → alike d e = true ∧ PyData.eqv d e = decide (x = y) ∧ dataLt d e = decide (ltv x y = some true)
  | .int i, y, n, m, d, e, a, hd, he => by
    cases y <;> first | (unfold alikeV at a; cases a; done) | skip
    rename_i k
    unfold dat at hd he
    cases hd
    cases he
    refine ⟨by simp [alike], Bool.eq_iff_iff.mpr (by simp [PyData.eqv]), ?_⟩
    rw [dataLt_int]
    unfold ltv
    simp
  | .str i, y, n, m, d, e, a, hd, he => by
    cases y <;> first | (unfold alikeV at a; cases a; done) | skip
    rename_i k
    unfold dat at hd he
    split at hd <;> cases hd
    split at he <;> cases he
    refine ⟨by simp [alike], Bool.eq_iff_iff.mpr (by simp [PyData.eqv]), ?_⟩
    rw [dataLt_str]
    unfold ltv
    simp
  | .tup l, y, n, m, d, e, a, hd, he => by
    cases y <;> first | (unfold alikeV at a; cases a; done) | skip
    rename_i k
    unfold alikeV at a
    cases n with
    | zero => unfold dat at hd; cases hd
    | succ n =>
      cases m with
      | zero => unfold dat at he; cases he
      | succ m =>
        unfold dat at hd he
        cases q1 : allO (l.map (dat h n)) with
        | none => rw [q1] at hd; cases hd
        | some ds =>
          cases q2 : allO (k.map (dat h m)) with
          | none => rw [q2] at he; cases he
          | some es =>
            rw [q1] at hd
            rw [q2] at he
            cases hd
            cases he
            obtain ⟨h1, h2, h3⟩ := al_dats l k n m ds es a q1 q2
            refine ⟨by simpa [alike] using h1, ?_, ?_⟩
            · rw [show PyData.eqv (.tuple ds) (.tuple es) = PyData.eqvAll ds es by simp [PyData.eqv], h2]
              simp
            · rw [dataLt_tuple, h3]
              unfold ltv
              rfl
  | .non, y, n, m, d, e, a, hd, he => by unfold alikeV at a; cases a
  | .bl _, y, n, m, d, e, a, hd, he => by unfold alikeV at a; cases a
  | .ref _, y, n, m, d, e, a, hd, he => by unfold alikeV at a; cases a
  | .rl _, y, n, m, d, e, a, hd, he => by unfold alikeV at a; cases a
  | .hx, y, n, m, d, e, a, hd, he => by unfold alikeV at a; cases a
theorem al_dats : ∀ (xs ys : List Va) (n m : Nat) (ds es : List PyData), alikeVs xs ys = true → allO (xs.map (dat h n)) = some ds → allO (ys.map (dat h m)) = some es → alikeAll ds es = true ∧ PyData.eqvAll ds es = decide (xs = ys) ∧ lexLt itemOrd (keyToksAll ds) (keyToksAll es) = decide (lts xs ys = some true)
  | [], [], n, m, ds, es, a, hd, he => by
    obtain rfl := allO_nil hd
    obtain rfl := allO_nil he
    refine ⟨by simp [alikeAll], by simp [PyData.eqvAll], ?_⟩
    rw [show lexLt itemOrd (keyToksAll []) (keyToksAll []) = false from lex_irrefl _]
    unfold lts
    simp
  | [], y :: ys, n, m, ds, es, a, hd, he => by
    obtain rfl := allO_nil hd
    rw [List.map_cons] at he
    obtain ⟨e, er, e1, e2, rfl⟩ := allO_cons he
    refine ⟨by simp [alikeAll], by simp [PyData.eqvAll], ?_⟩
    rw [(lex_ne e er).1]
    unfold lts
    simp
  | x :: xs, [], n, m, ds, es, a, hd, he => by
    obtain rfl := allO_nil he
    rw [List.map_cons] at hd
    obtain ⟨d, dr, e1, e2, rfl⟩ := allO_cons hd
    refine ⟨by simp [alikeAll], by simp [PyData.eqvAll], ?_⟩
    rw [(lex_ne d dr).2]
    unfold lts
    simp
  | x :: xs, y :: ys, n, m, ds, es, a, hd, he => by
    unfold alikeVs at a
    rw [Bool.and_eq_true] at a
    rw [List.map_cons] at hd he
    obtain ⟨d, dr, d1, d2, rfl⟩ := allO_cons hd
    obtain ⟨e, er, e1, e2, rfl⟩ := allO_cons he
    obtain ⟨h1, h2, h3⟩ := al_dat x y n m d e a.1 d1 e1
    obtain ⟨k1, k2, k3⟩ := al_dats xs ys n m dr er a.2 d2 e2
    refine ⟨by rw [alikeAll, h1, k1]; rfl, ?_, ?_⟩
    · rw [eqv_all_cons, h2, k2]
      by_cases c1 : x = y <;> by_cases c2 : xs = ys <;> simp [c1, c2]
    · rw [dataLt_cons h1, h2, k3, h3]
      simp only [lts]
      by_cases c : x = y
      · simp [c]
      · simp [c]
end
end
/-! ### tuples of unlike first numbers -/
def FstD (d : PyData) (i : Int) : Prop := ∃ r, d = .tuple (.int i :: r)
theorem reads_fst {hp : Heap} {v : Value} {d e : PyData} {as bs : List Addr} {i k : Int} (a : FstD d i) (b : FstD e k) (r : Reads hp v d as) (q : Reads hp v e bs) : i = k := by
  obtain ⟨dr, rfl⟩ := a
  obtain ⟨er, rfl⟩ := b
  cases r with
  | tuple h1 h2 h3 h4 =>
    cases q with
    | tuple k1 k2 k3 k4 =>
      rw [h1] at k1
      cases k1
      rw [h3] at k3
      cases k3
      generalize Array.toList _ = us at h4 k4
      cases h4 with
      | cons p1 p2 =>
        cases k4 with
        | cons q1 q2 =>
          cases p1
          cases q1
          rfl
structure RowsD (ds : List PyData) : Prop where
  fst : ∀ d ∈ ds, ∃ i, FstD d i
  self : ∀ d ∈ ds, alike d d = true
  one : ∀ d ∈ ds, ∀ e ∈ ds, ∀ i, FstD d i → FstD e i → d = e
theorem RowsD.key {hp : Heap} {ds : List PyData} (R : RowsD ds) {v : Value} {d : PyData} {as : List Addr} (hd : d ∈ ds) (r : Reads hp v d as) : (dataKind hp ds).keyOf v = some (keyToks d) := by
  have q : ∃ d, d ∈ ds ∧ ∃ as, Reads hp v d as := ⟨d, hd, as, r⟩
  have e : (dataKind hp ds).keyOf v = some (keyToks q.choose) := dif_pos q
  obtain ⟨m, bs, r2⟩ := q.choose_spec
  obtain ⟨i, fi⟩ := R.fst _ hd
  obtain ⟨k, fk⟩ := R.fst _ m
  obtain rfl := reads_fst fi fk r r2
  rw [e, R.one _ hd _ m _ fi fk]
section
variable {prog : Program} {w : World} {A : Around} {s : Shared}
theorem rows_sortsAt {vs : List Value} {ds : List PyData} (e : EachIs (fun v d => ∃ as, Reads s.heap v d as) vs ds) (R : RowsD ds) (hu : ∀ d, d ∈ ds → A.units + d.depth < cLine) : SortsAt prog w A s (dataKind s.heap ds) vs := by
  refine ⟨fun v hv => ?_, tuples' true, ?_, fun h2 E Q hq => ?_⟩
  · obtain ⟨d, hd, as, r⟩ := e.left v hv
    exact ⟨_, R.key hd r⟩
  · intro E x y a b Q ha hb hq
    obtain ⟨d, as, hd, ra, rfl⟩ := dataKind_inv ha
    obtain ⟨d', as', hd', rb, rfl⟩ := dataKind_inv hb
    have hr := hu d hd
    obtain ⟨i, x1, rfl⟩ := R.fst d hd
    obtain ⟨k, x2, rfl⟩ := R.fst d' hd'
    have hq2 : Q (dataLt (.tuple (.int i :: x1)) (.tuple (.int k :: x2))) s := hq
    rw [dataLt_tuple] at hq2
    cases ra with
    | @tuple l o xs n _ _ h1 h2 h3 h4 =>
      cases rb with
      | @tuple l' o' xs' n' _ _ k1 k2 k3 k4 =>
        have n1 : xs.size = (PyData.int i :: x1).length := by simpa using SeqAt.ReadsAll.length _ _ _ h4
        have n2 : xs'.size = (PyData.int k :: x2).length := by simpa using SeqAt.ReadsAll.length _ _ _ k4
        by_cases hik : i = k
        · subst hik
          have same := R.one _ hd _ hd' i ⟨x1, rfl⟩ ⟨x2, rfl⟩
          have hal := R.self _ hd
          cases same
          refine kat_lt h1 h3 k1 k3 (katLex_alike _ _ 0 _ _ _ _ h4 k4 (by simpa [alike] using hal) ?_ (fun _ _ x r t ex => ?_) (by rw [n1, n2]) hq2)
          · rw [Nat.min_self]
            have : PyData.depthAll (.int i :: x1) ≤ (PyData.tuple (.int i :: x1)).depth := by
              simp only [PyData.depth]
              omega
            omega
          · cases ex
            intro z
            cases z
        · rw [dataLt_cons (by simp [alike]), if_neg (by simpa [PyData.eqv] using hik), dataLt_int] at hq2
          refine kat_lt h1 h3 k1 k3 ?_
          generalize decide (xs.size < xs'.size) = fin
          generalize hus : xs.toList = us at h4
          generalize hws : xs'.toList = ws at k4
          cases h4 with
          | cons p1 p2 =>
            cases k4 with
            | cons q1 q2 =>
              cases p1
              cases q1
              refine kat_cons (SeqAt.EqAt.int_int _ _ _ _ prog w _ _ ?_)
              refine kat_go (fun z => absurd z (by simpa using hik)) fun _ => kat_no (oneLt_int hq2)
  · have ht : ∀ d, d ∈ ds → ∃ x r, d = .tuple (x :: r) := fun d hd => let ⟨i, r, z⟩ := R.fst d hd; ⟨_, r, z⟩
    obtain ⟨fs, t1, t2, t3⟩ := each_katTups e ht
    refine kat_kind (T := .type "int") t1 (by omega) (fun f hf => ?_) (beq_self_eq_true _) ?_
    · obtain ⟨x, r, as, m1, m2⟩ := t3 f hf
      obtain ⟨i, r', z⟩ := R.fst _ m1
      cases z
      exact looks_reads m2
    · exact hq
end
end Dl
set_option Elab.async false
set_option linter.all false
set_option maxRecDepth 100000
set_option maxHeartbeats 4000000
/-! sorted(..) by values. -/
namespace Dl
open PySem PySem.Spec PyProof.Rows L2
/-- a value's data -/
def encV (h : Store) (v : Va) : PyData := (dat h 20 v).getD .none
section
variable {X : Cx} {G : Gd} {j : List Addr} {H : Hp} {h : Store} {pins : List (Addr × Obj)} {σ : L2.St} {s : Shared}
theorem enc_of {v : Va} (e : (dat h 20 v).isSome = true) : dat h 20 v = some (encV h v) := by
  unfold encV
  cases q : dat h 20 v with
  | none => rw [q] at e; cases e
  | some d => rfl
theorem each_reads (hK : G.K = X.K) (I : L2.Inv X pins σ H s) (S : Sto G j h H) {hp : Heap} (kp : ∀ b o, s.heap.get? b = some o → hp.get? b = some o) : ∀ {l : List Va} {xs : List V} {vs : List Value}, RVs G j H l xs → Vals xs vs → (l.all fun x => (dat h 20 x).isSome) = true →
    PySem.W.EachIs (fun v b => ∃ as, Reads hp v (encV h b) as) vs l
  | _, _, _, .nil, .nil, _ => .nil
  | _, _, _, .cons r rs, .cons q qs, e => by
    rw [List.all_cons, Bool.and_eq_true] at e
    obtain ⟨d1, _, _⟩ := dp_of S 20 r (enc_of e.1)
    rw [hK] at d1
    obtain ⟨as, a1⟩ := Dp.reads I _ _ _ d1 q
    exact .cons ⟨as, PyProof.Rows.Reads.keeps kp a1⟩ (each_reads hK I S kp rs qs e.2)
theorem each_rel : ∀ {l : List Va} {xs : List V} {vs : List Value}, RVs G j H l xs → Vals xs vs → PySem.W.EachIs (fun v b => ∃ x, RV G j H b x ∧ RelV x v) vs l
  | _, _, _, .nil, .nil => .nil
  | _, _, _, .cons r rs, .cons q qs => .cons ⟨_, r, q⟩ (each_rel rs qs)
theorem rel_each : ∀ {l : List Va} {vs : List Value}, PySem.W.EachIs (fun v b => ∃ x, RV G j H b x ∧ RelV x v) vs l → ∃ xs, RVs G j H l xs ∧ Vals xs vs
  | _, _, .nil => ⟨[], .nil, .nil⟩
  | _, _, .cons ⟨x, r, q⟩ t => by
    obtain ⟨xs, h1, h2⟩ := rel_each t
    exact ⟨x :: xs, .cons r h1, .cons q h2⟩
theorem fst_of {v : Va} {i : Int} {d : PyData} (e : fstI v = some i) (q : dat h 20 v = some d) : FstD d i := by
  unfold fstI at e
  split at e
  · rename_i k r
    cases e
    unfold dat at q
    rw [List.map_cons] at q
    cases q1 : allO (dat h 19 (.int i) :: r.map (dat h 19)) with
    | none => rw [q1] at q; cases q
    | some ds =>
      rw [q1] at q
      cases q
      obtain ⟨y, rs, h1, h2, rfl⟩ := allO_cons q1
      unfold dat at h1
      cases h1
      exact ⟨rs, rfl⟩
  · cases e
theorem lts_self : ∀ l : List Va, lts l l = some false
  | [] => by unfold lts; rfl
  | x :: xs => by
    simp only [lts]
    rw [if_pos trivial, lts_self xs]
/-- what srtOk says, of the data -/
theorem le_same {l : List Va} (e : srtOk h l = true) : ∀ a ∈ l, ∀ b ∈ l, PySem.W.dataLt (encV h b) (encV h a) = decide (ltv b a = some true) := by
  unfold srtOk at e
  simp only [Bool.and_eq_true, Bool.or_eq_true, List.all_eq_true] at e
  obtain ⟨e1, e2⟩ := e
  intro a ha b hb
  rcases e2 with e2 | e2
  · exact (al_dat b a 20 20 _ _ (e2.1 b hb a ha) (enc_of (e1 b hb)) (enc_of (e1 a ha))).2.2
  · obtain ⟨f1, f2⟩ := e2
    by_cases hf : fstI b = fstI a
    · have := f2 b hb a ha
      simp only [hf, decide_true, Bool.not_true, Bool.false_eq_true, decide_eq_true_eq, false_or] at this
      subst this
      exact (al_dat b b 20 20 _ _ (f1 b hb).2 (enc_of (e1 b hb)) (enc_of (e1 b hb))).2.2
    · obtain ⟨i, hi⟩ := Option.isSome_iff_exists.mp (f1 b hb).1
      obtain ⟨k, hk⟩ := Option.isSome_iff_exists.mp (f1 a ha).1
      obtain ⟨r1, z1⟩ := fst_of hi (enc_of (e1 b hb))
      obtain ⟨r2, z2⟩ := fst_of hk (enc_of (e1 a ha))
      have ne : i ≠ k := fun z => hf (by rw [hi, hk, z])
      rw [z1, z2, PySem.W.dataLt_tuple, PySem.W.dataLt_cons (by simp [PySem.W.alike]), if_neg (by simpa [PyData.eqv] using ne), PySem.W.dataLt_int]
      unfold fstI at hi hk
      split at hi
      · cases hi
        split at hk
        · cases hk
          have w : ∀ t t' : List Va, ltv (.tup (.int i :: t)) (.tup (.int k :: t')) = some (decide (i < k)) := fun t t' => by
            simp only [ltv, lts]
            rw [if_neg (by simpa using ne)]
          rw [Bool.eq_iff_iff]
          simp only [decide_eq_true_eq, w, Option.some.injEq]
        · cases hk
      · cases hi
theorem sortV_data {l : List Va} (e : srtOk h l = true) : l.mergeSort (PySem.W.dataLe false (encV h)) = sortV l := by
  have := List.map_mergeSort (r := PySem.W.dataLe false (encV h)) (s := leV) (f := id) (l := l) fun a ha b hb => by
    rw [PySem.W.dataLe_eq]
    show (!PySem.W.dataLt (encV h b) (encV h a)) = leV a b
    rw [le_same e a ha b hb]
    rfl
  simpa [sortV] using this
theorem srt_at (hK : G.K = X.K) (I : L2.Inv X pins σ H s) (S : Sto G j h H) {A : Around} {s' : Shared} (kp : ∀ b o, s.heap.get? b = some o → s'.heap.get? b = some o) {l : List Va} {xs : List V} {vs : List Value} (r : RVs G j H l xs) (q : Vals xs vs) (e : srtOk h l = true) (hu : A.units + 20 < cLine) :
    PySem.W.SortsAt X.prog X.w A s' (PySem.W.dataKind s'.heap (l.map (encV h))) vs ∧ ∃ ys, RVs G j H (sortV l) ys ∧ Vals ys (PySem.W.sortVals (PySem.W.dataKind s'.heap (l.map (encV h))) false vs vs) := by
  have e0 := e
  unfold srtOk at e
  simp only [Bool.and_eq_true, Bool.or_eq_true, List.all_eq_true] at e
  obtain ⟨e1, e2⟩ := e
  have er := each_reads hK I S kp r q (List.all_eq_true.mpr e1)
  have em := PySem.W.each_map (R := fun v d => ∃ as, Reads s'.heap v d as) (encV h) er
  have hb : ∀ d, d ∈ l.map (encV h) → A.units + d.depth < cLine := fun d hd => by
    obtain ⟨v, hv, rfl⟩ := List.mem_map.mp hd
    obtain ⟨i, hi⟩ := List.getElem?_of_mem hv
    obtain ⟨x, _, rx⟩ := r.get hi
    have := (dp_of S 20 rx (enc_of (e1 v hv))).2.2
    omega
  have keys : (∀ v d, d ∈ l.map (encV h) → (∃ as, Reads s'.heap v d as) → (PySem.W.dataKind s'.heap (l.map (encV h))).keyOf v = some (PySem.W.keyToks d)) → ∃ ys, RVs G j H (sortV l) ys ∧ Vals ys (PySem.W.sortVals (PySem.W.dataKind s'.heap (l.map (encV h))) false vs vs) := fun hk => by
    have ek : PySem.W.EachIs (fun v b => (PySem.W.dataKind s'.heap (l.map (encV h))).keyOf v = some (PySem.W.keyToks (encV h b))) vs l := (PySem.W.each_mem er).mono fun v b z => by
      obtain ⟨⟨as, z1⟩, z2⟩ := z
      exact hk v _ (List.mem_map.mpr ⟨b, z2, rfl⟩) ⟨as, z1⟩
    have out := PySem.W.sortVals_each (κ := PySem.W.dataKind s'.heap (l.map (encV h))) (rev := false) (fun b => PySem.W.keyToks (encV h b)) (each_rel r q) ek
    have out2 : PySem.W.EachIs (fun v b => ∃ x, RV G j H b x ∧ RelV x v) (PySem.W.sortVals (PySem.W.dataKind s'.heap (l.map (encV h))) false vs vs) (l.mergeSort (PySem.W.dataLe false (encV h))) := out
    rw [sortV_data e0] at out2
    exact rel_each out2
  rcases e2 with e2 | e2
  · have hal : PySem.W.AllAlike (l.map (encV h)) := fun d hd d' hd' => by
      obtain ⟨a, ha, rfl⟩ := List.mem_map.mp hd
      obtain ⟨b, hb, rfl⟩ := List.mem_map.mp hd'
      exact (al_dat a b 20 20 _ _ (e2.1 a ha b hb) (enc_of (e1 a ha)) (enc_of (e1 b hb))).1
    refine ⟨PySem.W.SortsAt.data em hal ?_ hb, keys fun v d hd ⟨as, z⟩ => PySem.W.dataKind_some hal hd z⟩
    rcases e2.2 with e3 | e3
    · refine .inl fun d hd => ?_
      obtain ⟨a, ha, rfl⟩ := List.mem_map.mp hd
      have t := e3 a ha
      have w := enc_of (e1 a ha)
      unfold tupNe at t
      split at t
      · rename_i b r
        unfold dat at w
        rw [List.map_cons] at w
        cases q1 : allO (dat h 19 b :: r.map (dat h 19)) with
        | none => rw [q1] at w; cases w
        | some ds =>
          rw [q1] at w
          obtain ⟨y, rs, h1, h2, rfl⟩ := allO_cons q1
          exact ⟨y, rs, (Option.some.inj w).symm⟩
      · cases t
    · refine .inr fun d hd => ?_
      obtain ⟨a, ha, rfl⟩ := List.mem_map.mp hd
      have t := e3 a ha
      have w := enc_of (e1 a ha)
      have al := e2.1 a ha a ha
      cases a with
      | int i =>
        unfold dat at w
        rw [← Option.some.inj w]
        exact ⟨by simp, by simp⟩
      | str z =>
        unfold dat at w
        split at w
        · rw [← Option.some.inj w]
          exact ⟨by simp, by simp⟩
        · cases w
      | tup _ => cases t
      | _ => unfold alikeV at al; cases al
  · obtain ⟨f1, f2⟩ := e2
    have R : RowsD (l.map (encV h)) := by
      refine ⟨fun d hd => ?_, fun d hd => ?_, fun d hd d' hd' i hi hk => ?_⟩
      · obtain ⟨a, ha, rfl⟩ := List.mem_map.mp hd
        obtain ⟨i, hi⟩ := Option.isSome_iff_exists.mp (f1 a ha).1
        exact ⟨i, fst_of hi (enc_of (e1 a ha))⟩
      · obtain ⟨a, ha, rfl⟩ := List.mem_map.mp hd
        exact (al_dat a a 20 20 _ _ (f1 a ha).2 (enc_of (e1 a ha)) (enc_of (e1 a ha))).1
      · obtain ⟨a, ha, rfl⟩ := List.mem_map.mp hd
        obtain ⟨b, hb, rfl⟩ := List.mem_map.mp hd'
        obtain ⟨i1, hi1⟩ := Option.isSome_iff_exists.mp (f1 a ha).1
        obtain ⟨i2, hi2⟩ := Option.isSome_iff_exists.mp (f1 b hb).1
        obtain ⟨r1, z1⟩ := fst_of hi1 (enc_of (e1 a ha))
        obtain ⟨r2, z2⟩ := fst_of hi2 (enc_of (e1 b hb))
        obtain ⟨r3, z3⟩ := hi
        obtain ⟨r4, z4⟩ := hk
        rw [z1] at z3
        rw [z2] at z4
        cases z3
        cases z4
        have := f2 a ha b hb
        rw [hi1, hi2] at this
        simp only [decide_true, Bool.not_true, Bool.false_eq_true, decide_eq_true_eq, false_or] at this
        rw [this]
    exact ⟨rows_sortsAt em R hb, keys fun v d hd ⟨as, z⟩ => R.key hd z⟩
/-- the new list, sorted -/
theorem srt_laid {Q : VK} (I : L2.Inv X pins σ H s) (S : Sto G j h H) {l : List Va} {ys : List V} {out : List Value} {h' : Heap} {t' : Nat} {a : Addr} {c : Nat} {W : XK} (kp : ∀ b o, s.heap.get? b = some o → h'.get? b = some o) (ha : s.heap.objs.size ≤ a) (e : h'.get? a = some { cls := .type "list", data := .seq out.toArray c })
    (r : RVs G j H l ys) (q : Vals ys out) (hz : ys.length ≤ sizeLine) (p : PostE G j H (.ok (.ref h.length) (h ++ [.lst l])) Q W) : EP X pins σ Q (.ref a) { s with heap := h', toks := t' } :=
  ⟨.ref a, _, I.laid (o := .lst ys) (t' := t') kp ha ⟨hz, out, c, q, e⟩, rfl, p.newL S r (I.hok.fresh ha)⟩
/-- the entries of a dict, as they lie -/
theorem dct_ents (I : L2.Inv X pins σ H s) (S : Sto G j h H) {n : Nat} {a : Addr} {l : List (Va × Va)} (e : j[n]? = some a) (q : h[n]? = some (.dct l)) : ∃ o es ep xs ys, s.heap.get? a = some o ∧ o.ExactDict ∧ o.data = .dict es ep ∧ (a == sysModules) = false ∧ es.size ≤ sizeLine ∧
    RVs G j H (l.map (·.1)) xs ∧ Vals xs (es.toList.map (·.key)) ∧ RVs G j H (l.map (·.2)) ys ∧ Vals ys (es.toList.map (·.val)) := by
  rcases S.ob n a _ e q with ⟨ks, e1, e2⟩ | ⟨ks, e1, e2⟩
  · obtain ⟨z, hs, vs, rel, o, es, ep, h1, h2, h3, _, h4, _⟩ := (show ObjOk X.prog X.w H s.heap a (.dK ks) from I.hok a _ e1)
    have key : ∀ {l : List (Va × Va)} {ks : List (Key × V)} {vs : List (Key × Value)} {es : List DictEntry}, Paired (fun p q => keyV p.1 = some q.1 ∧ RV G j H p.2 q.2) l ks → KV ks vs → Pairs (mixKind X.prog X.w) es vs →
        ∃ xs ys, RVs G j H (l.map (·.1)) xs ∧ Vals xs (es.map (·.key)) ∧ RVs G j H (l.map (·.2)) ys ∧ Vals ys (es.map (·.val)) := fun {l ks vs es} p => by
      induction p generalizing vs es with
      | nil =>
        intro kv pr
        cases kv
        cases pr
        exact ⟨[], [], .nil, .nil, .nil, .nil⟩
      | @cons a b l ks p1 p2 ih =>
        intro kv pr
        cases kv with
        | cons k1 k2 =>
          cases pr with
          | cons r1 r2 r3 =>
            obtain ⟨xs, ys, i1, i2, i3, i4⟩ := ih k2 r3
            obtain ⟨v, u⟩ := a
            obtain ⟨k, w⟩ := b
            dsimp only at p1 k1 r1
            rw [← k1.1] at r1
            have hv := k1.2
            rw [← r2] at hv
            have hk := p1.1
            unfold keyV at hk
            split at hk <;> cases hk
            · rename_i i
              rcases keyIs_shape (show keyIs (Sum.inl i) _ = true from r1) with ⟨i', t, ek, ev⟩ | ⟨z, t, ek, ev⟩
              · cases ek
                exact ⟨_, _, .cons (.int i) i1, .cons ⟨t, ev⟩ i2, .cons p1.2 i3, .cons hv i4⟩
              · cases ek
            · rename_i i
              rcases keyIs_shape (show keyIs (Sum.inr i) _ = true from r1) with ⟨i', t, ek, ev⟩ | ⟨z, t, ek, ev⟩
              · cases ek
              · cases ek
                exact ⟨_, _, .cons (.str i) i1, .cons ⟨t, ev⟩ i2, .cons p1.2 i3, .cons hv i4⟩
    obtain ⟨xs, ys, i1, i2, i3, i4⟩ := key e2 rel h4
    refine ⟨o, es, ep, xs, ys, h1, h2, h3, hs, ?_, i1, i2, i3, i4⟩
    have l1 := i2.length
    rw [List.length_map, ← i1.length, List.length_map, e2.length] at l1
    have l3 : es.toList.length = es.size := Array.length_toList
    omega
  · obtain ⟨z, hs, zs, rel, o, es, ep, h1, h2, h3, h4, _⟩ := (show ObjOk X.prog X.w H s.heap a (.dT ks) from I.hok a _ e1)
    have key : ∀ {l : List (Va × Va)} {ks : List (List Key × V)} {zs : List (List Key × Addr × Value)}, Paired (fun p q => keyT G.gl p.1 = some q.1 ∧ RV G j H p.2 q.2) l ks →
        Paired (fun (p : List Key × V) (q : List Key × Addr × Value) => p.1 = q.1 ∧ H q.2.1 = some (.tup (p.1.map kV)) ∧ RelV p.2 q.2.2) ks zs →
        ∃ xs ys, RVs G j H (l.map (·.1)) xs ∧ Vals xs (zs.map fun y => Value.ref y.2.1) ∧ RVs G j H (l.map (·.2)) ys ∧ Vals ys (zs.map fun y => y.2.2) := fun {l ks zs} p => by
      induction p generalizing zs with
      | nil =>
        intro kv
        cases kv
        exact ⟨[], [], .nil, .nil, .nil, .nil⟩
      | @cons a b l ks p1 p2 ih =>
        intro kv
        cases kv with
        | @cons _ y _ zs' k1 k2 =>
          obtain ⟨xs, ys, i1, i2, i3, i4⟩ := ih k2
          obtain ⟨v, u⟩ := a
          obtain ⟨k, w⟩ := b
          dsimp only at p1 k1
          obtain ⟨l', z1, z2, z3⟩ := keyT_tup p1.1
          have rk : RVs G j H l' (k.map kV) := by
            have kk : ∀ {l : List Va} {k : List Key}, allO (l.map keyV) = some k → RVs G j H l (k.map kV) := fun {l} => by
              induction l with
              | nil =>
                intro k e
                cases e
                exact .nil
              | cons v l ih =>
                intro k e
                rw [List.map_cons] at e
                obtain ⟨k0, kr, e1, e2, rfl⟩ := allO_cons e
                refine .cons ?_ (ih e2)
                unfold keyV at e1
                split at e1 <;> cases e1
                · exact .int _
                · exact .str _
            exact kk z3
          have rv : RV G j H v (.ref y.2.1) := by
            rw [z1]
            exact .tup k1.2.1 rk
          exact ⟨_, _, .cons rv i1, .cons rfl i2, .cons p1.2 i3, .cons k1.2.2 i4⟩
    obtain ⟨xs, ys, i1, i2, i3, i4⟩ := key e2 rel
    have ek : es.toList.map (·.key) = zs.map fun y => Value.ref y.2.1 := by
      rw [h4, List.map_map]
      rfl
    have ev : es.toList.map (·.val) = zs.map fun y => y.2.2 := by
      rw [h4, List.map_map]
      rfl
    refine ⟨o, es, ep, xs, ys, h1, h2, h3, hs, ?_, i1, ek ▸ i2, i3, ev ▸ i4⟩
    have l1 := rel.length
    have l2 := congrArg List.length h4
    rw [List.length_map, Array.length_toList] at l2
    omega
theorem dct_keys (I : L2.Inv X pins σ H s) (S : Sto G j h H) {n : Nat} {a : Addr} {l : List (Va × Va)} (e : j[n]? = some a) (q : h[n]? = some (.dct l)) : ∃ o es ep xs, s.heap.get? a = some o ∧ o.ExactDict ∧ o.data = .dict es ep ∧ (a == sysModules) = false ∧ es.size ≤ sizeLine ∧
    RVs G j H (l.map (·.1)) xs ∧ Vals xs (es.toList.map (·.key)) :=
  let ⟨o, es, ep, xs, _, h1, h2, h3, h4, h5, h6, h7, _⟩ := dct_ents I S e q
  ⟨o, es, ep, xs, h1, h2, h3, h4, h5, h6, h7⟩
/-- one value in, by the interpreter's step -/
def VL (G : Gd) (f : Store → List Va → R) : List V → Hp → VK → Prop := fun xs H Q => ∃ j h vs W, Sto G j h H ∧ RVs G j H vs xs ∧ PostE G j H (f h vs) Q W
theorem sorted_ok (hK : G.K = X.K) (hc : X.calm = true) (hu : X.A.units + 64 < cLine) : CallR X (.builtin "sorted") (VL G fun h vs => bfn G.gl .sorted h vs) := by
  intro pins s σ H xs us Q I r ⟨j, h, ws, W, S, rv, p⟩
  dsimp only at p
  unfold bfn at p
  split at p <;> first
    | exact False.elim p
    | (rename_i hb; cases hb; done)
    | skip
  rename_i n
  obtain ⟨y, ys, rfl, r1, r2⟩ := rv.consE
  cases r2.nilE
  obtain ⟨a, rfl, ea⟩ := r1.refA
  obtain ⟨u, rfl, ru⟩ := vals1 r
  obtain rfl : u = Value.ref a := ru
  have hu1 : X.A.in1.in1.units + 20 < cLine := by
    show X.A.units + 1 + 1 + 20 < cLine
    omega
  split at p
  · rename_i l hl
    split at p
    · rename_i hs
      obtain ⟨xs, e1, rl⟩ := S.lst ea hl
      obtain ⟨its, q, pl, hz⟩ := I.list (a := a) (xs := xs) (.inl (.inl e1))
      have hz2 : its.length ≤ sizeLine := by rw [← q.length]; exact hz
      have old : ∀ b o, s.heap.get? b = some o → (PySem.W.sortingHeap (PySem.W.copyHeap s.heap its) (s.heap.objs.size + 1) its).get? b = some o := fun b o e => PySem.W.sorting_copy_old e
      obtain ⟨sa, zs, z1, z2⟩ := srt_at hK I S (A := X.A.in1.in1) (s' := { s with heap := PySem.W.sortingHeap (PySem.W.copyHeap s.heap its) (s.heap.objs.size + 1) its }) old rl q hs hu1
      refine PySem.W.sorted_vals pl.isList sa hz2 ?_
      obtain ⟨c, hc2⟩ := sortedAll_at s.heap its (PySem.W.sortVals (PySem.W.dataKind (PySem.W.sortingHeap (PySem.W.copyHeap s.heap its) (s.heap.objs.size + 1) its) (l.map (encV h))) false its its).toArray
      refine srt_laid (t' := s.toks) I S (fun b o e => sortedAll_old e) (Nat.le_succ _) hc2 z1 z2 ?_ p
      rw [z2.length, PySem.W.sortVals_length false rfl]
      exact hz2
    · exact False.elim p
  · rename_i l hl
    split at p
    · rename_i hs
      obtain ⟨o, es, ep, xs, e1, e2, e3, lo, hz, rl, q⟩ := dct_keys I S ea hl
      refine Calls.call_function_entry PyProof.Rows.kind_sorted PyProof.Rows.plain_sorted PyProof.Rows.entry_sorted (PyProof.Rows.args_sorted1 _) ?_
      unfold Builtin.«sorted»
      refine wpAny_bind (m := checkCount "sorted" 1 1 _) (wpAny_pure ?_)
      refine wpAny_bind (PySem.W.kdu_collect (A := X.A.in1) (kdl_raw lo e2 e3) (I.ok.hd hc) e1 hz fun h' tk acc hk hacc => ?_)
      have eacc : acc.toList = es.toList.map (·.key) := by
        apply List.ext_getElem?
        intro i
        have hl2 : acc.toList.length = es.toList.length := by rw [Array.length_toList, Array.length_toList]; exact hacc.1
        rw [List.getElem?_map]
        cases hi : acc.toList[i]? with
        | none =>
          have := List.getElem?_eq_none_iff.mp hi
          rw [List.getElem?_eq_none (by omega)]
          rfl
        | some v =>
          obtain ⟨en, h1, h2⟩ := hacc.2 i v (by rw [← Array.getElem?_toList]; exact hi)
          rw [← Array.getElem?_toList] at h1
          rw [h1, h2]
          rfl
      have I1 : L2.Inv X pins σ H { s with heap := h', toks := tk } := I.kept hk
      rw [eacc]
      have hz2 : (es.toList.map (·.key)).length ≤ sizeLine := by rw [List.length_map, Array.length_toList]; exact hz
      generalize es.toList.map (·.key) = its at q hz2
      refine wpAny_bind (wpAny_newList ?_ hz2)
      have hoL : (h'.push (seqObj "list" its.toArray 0)).get? h'.objs.size = some (seqObj "list" its.toArray 0) := Heap.get?_push_size _ rfl
      show wpAny _ _ _ _ _ { s with heap := h'.push (seqObj "list" its.toArray 0), toks := tk }
      have old : ∀ b o, h'.get? b = some o → (PySem.W.sortingHeap (h'.push (seqObj "list" its.toArray 0)) h'.objs.size its).get? b = some o := fun b o e => PySem.W.sortingHeap_old (Nat.ne_of_lt (Heap.lt_size e)) (Heap.get?_push_of_some _ e)
      obtain ⟨sa, zs, z1, z2⟩ := srt_at hK I1 S (A := X.A.in1.in1) (s' := { s with heap := PySem.W.sortingHeap (h'.push (seqObj "list" its.toArray 0)) h'.objs.size its, toks := tk }) old rl q hs hu1
      refine wpAny_bind (wpAny_holding (wpAny_call_entry PyProof.Rows.slot_list_sort ⟨_, hoL, rfl⟩ PyProof.Rows.entry_list_sort
        (PySem.W.list_sort_vals (s := { s with heap := h'.push (seqObj "list" its.toArray 0), toks := tk }) hoL sa hz2 ⟨_, rfl, ?_⟩) (PyProof.Rows.args_list_sort _)))
      refine wpAny_pure ⟨_, rfl, ?_⟩
      obtain ⟨c, hc2⟩ := sortedHeap_at (vs := its) (out := (PySem.W.sortVals (PySem.W.dataKind (PySem.W.sortingHeap (h'.push (seqObj "list" its.toArray 0)) h'.objs.size its) ((l.map (·.1)).map (encV h))) false its its).toArray) hoL
      refine srt_laid (s := { s with heap := h', toks := tk }) (t' := tk) I1 S (fun b o e => (sortedHeap_old (Nat.ne_of_lt (Heap.lt_size e)) (by rw [size_push']; exact Nat.lt_succ_of_lt (Heap.lt_size e))).trans (Heap.get?_push_of_some _ e)) (Nat.le_refl _) hc2 z1 z2 ?_ p
      rw [z2.length, PySem.W.sortVals_length false rfl]
      exact hz2
    · exact False.elim p
  · exact False.elim p
end
end Dl
set_option Elab.async false
set_option linter.all false
set_option maxRecDepth 100000
set_option maxHeartbeats 4000000
/-! min(s, t), max(s, t) of texts. -/
namespace Dl
open PySem PySem.Spec PyProof.Rows L2
def two (x y : Str) (i : Nat) : Str := if i = 0 then x else y
theorem cmp_gt2 {prog : Program} {w : World} {A : Around} {x y : Str} {t u : Tok} : CmpOf prog w A .Gt (fun i v => (#[Value.str x t, Value.str y u] : Array Value)[i]? = some v) (fun i k => decide ((two x y k).cps.toList < (two x y i).cps.toList)) := fun i k vi vj s Q E hi hj hq => by
  have shape : ∀ {i : Nat} {v : Value}, (#[Value.str x t, Value.str y u] : Array Value)[i]? = some v → ∃ t', v = .str (two x y i) t' := fun {i v} e => by
    match i, e with
    | 0, e => exact ⟨t, by simpa [two] using e.symm⟩
    | 1, e => exact ⟨u, by simpa [two] using e.symm⟩
    | n + 2, e => simp at e
  obtain ⟨t1, rfl⟩ := shape hi
  obtain ⟨t2, rfl⟩ := shape hj
  exact richCompare_gives (op := .Gt) (typeIs_str s _ t1) (typeIs_str s _ t2) F.slot_str_gt F.entry_str_gt (F.args_str_gt_2 _ _) (gives_str_gt _ _ t1 t2) (fun e => nomatch e) hq
theorem cmp_lt2 {prog : Program} {w : World} {A : Around} {x y : Str} {t u : Tok} : CmpOf prog w A .Lt (fun i v => (#[Value.str x t, Value.str y u] : Array Value)[i]? = some v) (fun i k => decide ((two x y i).cps.toList < (two x y k).cps.toList)) := fun i k vi vj s Q E hi hj hq => by
  have shape : ∀ {i : Nat} {v : Value}, (#[Value.str x t, Value.str y u] : Array Value)[i]? = some v → ∃ t', v = .str (two x y i) t' := fun {i v} e => by
    match i, e with
    | 0, e => exact ⟨t, by simpa [two] using e.symm⟩
    | 1, e => exact ⟨u, by simpa [two] using e.symm⟩
    | n + 2, e => simp at e
  obtain ⟨t1, rfl⟩ := shape hi
  obtain ⟨t2, rfl⟩ := shape hj
  exact richCompare_gives (op := .Lt) (typeIs_str s _ t1) (typeIs_str s _ t2) F.slot_str_lt F.entry_str_lt (F.args_str_lt_2 _ _) (gives_str_lt _ _ t1 t2) (fun e => nomatch e) hq
section
variable {prog : Program} {w : World} {A : Around} {E : Value → Shared → Prop} {s : Shared}
theorem two_iter {a b : Value} {op : CmpOp} {bt : Nat → Nat → Bool} {Q : Value → Shared → Prop} (hh : A.handled = none) (cmp : CmpOf prog w A.in1 op (fun i v => (#[a, b] : Array Value)[i]? = some v) bt)
    (h : ∀ v h' tk, (#[a, b] : Array Value)[argBest bt 1]? = some v → (∀ c o, s.heap.get? c = some o → h'.get? c = some o) → Q v { s with heap := h', toks := tk }) :
    wpAny (model prog w) A.in1 (pyIter (.ref s.heap.objs.size)) (fun it s₂ => ∃ I fp wr n P St bt, it = .ref I ∧ Walks prog w A.in1 I fp wr n P St ∧ St 0 s₂.heap ∧ (∀ b ∈ fp, b < s₂.heap.objs.size) ∧ 0 < n ∧ CmpOf prog w A.in1 op P bt ∧
      ∀ v h' tk, P (argBest bt (n - 1)) v → (∀ b o, b ∉ wr → s₂.heap.get? b = some o → h'.get? b = some o) → Q v { s₂ with heap := h', toks := tk }) E { s with heap := s.heap.push { cls := .type "tuple", data := .seq #[a, b] } } := by
  have tp : (s.heap.push { cls := .type "tuple", data := .seq #[a, b] }).IsTuple s.heap.objs.size #[a, b] := ⟨_, Heap.get?_push_size _ rfl, rfl, 0, rfl⟩
  have sz : (s.heap.push { cls := .type "tuple", data := .seq #[a, b] }).objs.size = s.heap.objs.size + 1 := Heap.size_push ..
  refine wpAny_pyIter_tuple tp ?_
  refine ⟨_, [_, s.heap.objs.size], [_], _, _, _, _, rfl, Walks.tuple (A := A.in1) hh _ s.heap.objs.size (by rw [sz]; exact Nat.ne_of_lt (Nat.lt_succ_self _)) #[a, b], ⟨⟨_, Heap.get?_push_size _ rfl, rfl, rfl⟩, tp.push _⟩, fun c hc => ?_, by simp, cmp, fun v h' tk hP hk => ?_⟩
  · have sz2 : ∀ o : Obj, ((s.heap.push { cls := .type "tuple", data := .seq #[a, b] }).push o).objs.size = s.heap.objs.size + 2 := fun o => by rw [Heap.size_push, sz]
    show c < ((s.heap.push _).push _).objs.size
    rw [sz2]
    simp only [List.mem_cons, List.not_mem_nil, or_false] at hc
    rcases hc with rfl | rfl
    · rw [sz]; exact Nat.lt_succ_self _
    · exact Nat.lt_of_lt_of_le (Nat.lt_succ_self _) (Nat.le_succ _)
  · refine h v h' tk hP fun c o e => hk c o (fun hm => ?_) (Heap.get?_push_of_some _ (Heap.get?_push_of_some _ e))
    have lt := Heap.lt_size e
    rw [List.mem_singleton] at hm
    rw [hm, sz] at lt
    exact absurd lt (Nat.not_lt.mpr (Nat.le_succ _))
end
section
variable {X : Cx}
theorem minmax_str_max (hc : X.calm = true) : CallR X (.builtin "max") (fun xs H Q => ∃ i k, xs = [.str i, .str k] ∧ Q (.str (if i.cps.toList < k.cps.toList then k else i)) H) := by
  intro pins s σ H xs us Q I r ⟨i, k, e, q⟩
  subst e
  obtain ⟨u, v, rfl, r1, r2⟩ := vals2 r
  obtain ⟨t1, rfl⟩ := r1
  obtain ⟨t2, rfl⟩ := r2
  refine call_max_two (two_iter (I.ok.hd hc) cmp_gt2 fun v h' tk hv kp => ?_)
  refine ⟨_, H, I.kept (t' := tk) kp, ?_, q⟩
  by_cases c : i.cps.toList < k.cps.toList
  · rw [if_pos c]
    have e : argBest (fun a b => decide ((two i k b).cps.toList < (two i k a).cps.toList)) 1 = 1 := by simp [argBest, two, c]
    rw [e] at hv
    exact ⟨t2, by simpa using hv.symm⟩
  · rw [if_neg c]
    have e : argBest (fun a b => decide ((two i k b).cps.toList < (two i k a).cps.toList)) 1 = 0 := by simp [argBest, two, c]
    rw [e] at hv
    exact ⟨t1, by simpa using hv.symm⟩
theorem minmax_str_min (hc : X.calm = true) : CallR X (.builtin "min") (fun xs H Q => ∃ i k, xs = [.str i, .str k] ∧ Q (.str (if k.cps.toList < i.cps.toList then k else i)) H) := by
  intro pins s σ H xs us Q I r ⟨i, k, e, q⟩
  subst e
  obtain ⟨u, v, rfl, r1, r2⟩ := vals2 r
  obtain ⟨t1, rfl⟩ := r1
  obtain ⟨t2, rfl⟩ := r2
  refine call_min_two (two_iter (I.ok.hd hc) cmp_lt2 fun v h' tk hv kp => ?_)
  refine ⟨_, H, I.kept (t' := tk) kp, ?_, q⟩
  by_cases c : k.cps.toList < i.cps.toList
  · rw [if_pos c]
    have e : argBest (fun a b => decide ((two i k a).cps.toList < (two i k b).cps.toList)) 1 = 1 := by simp [argBest, two, c]
    rw [e] at hv
    exact ⟨t2, by simpa using hv.symm⟩
  · rw [if_neg c]
    have e : argBest (fun a b => decide ((two i k a).cps.toList < (two i k b).cps.toList)) 1 = 0 := by simp [argBest, two, c]
    rw [e] at hv
    exact ⟨t1, by simpa using hv.symm⟩
end
end Dl
set_option Elab.async false
set_option linter.all false
set_option maxRecDepth 100000
set_option maxHeartbeats 4000000
/-! list(d.items()). -/
namespace Dl
open PySem PySem.Spec PyProof.Rows L2 L2.DX
section
variable {prog : Program} {w : World} {A : Around} {E : Value → Shared → Prop} {s : Shared} {r d : Addr} {es : Array DictEntry} {ep : Nat}
theorem list_of_items {Q : Value → Shared → Prop} (hh : A.handled = none) (hv : s.heap.IsItemsView r d) (hm : DT.Raw s.heap d es ep) (hn : es.size ≤ sizeLine)
    (hQ : ∀ h' tk acc c as, (∀ b o, s.heap.get? b = some o → h'.get? b = some o) → h'.get? s.heap.objs.size = some { cls := .type "list", dict := none, data := .seq acc c, slots := #[] } → as.length = es.size → DT.Made es s.heap.objs.size h' as →
      acc.toList = as.map Value.ref → Q (.ref s.heap.objs.size) { s with heap := h', toks := tk }) : wpAny (model prog w) A (call (.type "list") [.ref r]) Q E s := by
  refine callType_codes (Q₁ := fun ob s1 => ob = .ref s.heap.objs.size ∧ s1 = { s with heap := s.heap.push { cls := .type "list", data := .seq #[] } }) PySem.F.called_list (PySem.F.typeCall_list_1 _) PySem.F.entry_list_init (code_list_new _ ⟨rfl, rfl⟩) fun ob s1 e1 => ?_
  obtain ⟨rfl, rfl⟩ := e1
  have at0 : (s.heap.push { cls := .type "list", data := .seq #[] }).get? s.heap.objs.size = some { cls := .type "list", data := .seq #[] } := Heap.get?_push_size _ rfl
  have rlt : r < s.heap.objs.size := let ⟨_, ho, _⟩ := hv; Heap.lt_size ho
  have dlt : d < s.heap.objs.size := hm.lt
  refine ⟨⟨_, at0, rfl⟩, PySem.F.args_list_init_2 _ _, ?_⟩
  show wpAny _ _ (do let old ← Builtin.List.listItems (.ref s.heap.objs.size); Builtin.List.listUpdate (.ref s.heap.objs.size) (fun _ => #[]); letGo old.toList.reverse; Builtin.List.listExtendWith (.ref s.heap.objs.size) (.ref r) .none) _ _ _
  refine wpAny_bind ?_
  unfold Builtin.List.listItems
  refine wpAny_bind (wpAny_seqItems at0 rfl (wpAny_pure ?_))
  show wpAny _ _ (updateSeq s.heap.objs.size (fun _ => #[]) >>= fun _ => letGo (#[] : Array Value).toList.reverse >>= fun _ => Builtin.List.listExtendWith (.ref s.heap.objs.size) (.ref r) .none) _ _ _
  refine wpAny_bind (wpAny_updateSeq at0 rfl ?_)
  have at1 := Heap.get?_update_self (Obj.mapSeq (fun _ => (#[] : Array Value))) at0 rfl
  have others : ∀ b o, b ≠ s.heap.objs.size → (s.heap.push { cls := .type "list", data := .seq #[] }).get? b = some o → ((s.heap.push { cls := .type "list", data := .seq #[] }).update s.heap.objs.size (Obj.mapSeq (fun _ => (#[] : Array Value)))).get? b = some o :=
    fun b o n e => (Heap.get?_update_other _ _ (Ne.symm n)).trans e
  have old : ∀ b o, s.heap.get? b = some o → ((s.heap.push { cls := .type "list", data := .seq #[] }).update s.heap.objs.size (Obj.mapSeq (fun _ => (#[] : Array Value)))).get? b = some o :=
    fun b o e => others b o (Nat.ne_of_lt (Heap.lt_size e)) (Heap.get?_push_of_some _ e)
  refine wpAny_bind (wpAny_letGo ?_)
  refine DT.extI (prog := prog) (w := w) (A := A.in1) (R := wants (fun r s2 => r = Value.none ∧ Q (Value.ref s.heap.objs.size) s2) E) (s := { s with heap := (s.heap.push { cls := .type "list", data := .seq #[] }).update s.heap.objs.size (Obj.mapSeq (fun _ => (#[] : Array Value))) }) (es := es) (ep := ep) hh (let ⟨o, ho, x⟩ := hv; ⟨o, old r o ho, x⟩) (hm.at' fun o e => old d o e) s.heap.objs.size (Nat.ne_of_gt rlt) (Nat.ne_of_lt dlt) .none _ at1 (fun h' tk acc c as k1 k2 k3 k4 k5 => ?_) hn
  refine ⟨rfl, hQ h' tk acc c as (fun b o e => k1 b o (Nat.ne_of_lt (Heap.lt_size e)) (old b o e)) k2 k3 (k4.low ?_) k5⟩
  show s.heap.objs.size ≤ ((s.heap.push _).update _ _).objs.size
  rw [Heap.size_update, Heap.size_push]
  exact Nat.le_succ _
end
section
variable {X : Cx} {G : Gd} {j : List Addr} {H : Hp} {h : Store}
def rItems2 : V → List V → Hp → VK → Prop := fun x xs H Q => ∃ a, x = .ref a ∧ xs = [] ∧ ((∃ kvs : List (Key × V), H a = some (.dK kvs)) ∨ ∃ kvs : List (List Key × V), H a = some (.dT kvs)) ∧ ∀ p, H p = none → Q (.ref p) (upd H p (itemsO p a))
theorem mt_items2 : MtR X "dict.items" rItems2 := by
  intro pins s σ H x xs v us Q I rx rxs hh
  obtain ⟨a, rfl, rfl, ha, q⟩ := hh
  cases rx
  cases rxs
  have raw : ∃ es ep, (a == sysModules) = false ∧ DT.Raw s.heap a es ep := by
    rcases ha with ⟨kvs, ha⟩ | ⟨kvs, ha⟩
    · obtain ⟨_, hs, vs, _, o, es, ep, h1, h2, h3, _⟩ := (show ObjOk X.prog X.w H s.heap a (.dK kvs) from I.hok a _ ha)
      exact ⟨es, ep, hs, o, h1, h2, h3⟩
    · obtain ⟨_, hs, vs, _, o, es, ep, h1, h2, h3, _⟩ := (show ObjOk X.prog X.w H s.heap a (.dT kvs) from I.hok a _ ha)
      exact ⟨es, ep, hs, o, h1, h2, h3⟩
  obtain ⟨es, ep, hs, raw⟩ := raw
  refine DT.callItems (es := es) (ep := ep) hs raw ?_
  have fr : H s.heap.objs.size = none := I.hok.fresh (Nat.le_refl _)
  exact ⟨.ref s.heap.objs.size, upd H s.heap.objs.size (itemsO s.heap.objs.size a), I.laid (t' := s.toks) (fun b u e => Heap.get?_push_of_some _ e) (Nat.le_refl _) (itemsO_ok (Heap.get?_push_size _ rfl)), rfl, q _ fr⟩
def rListI (G : Gd) : List V → Hp → VK → Prop := fun vs H Q => ∃ (p a : Addr) (n : Nat) (l : List (Va × Va)) (j : List Addr) (h : Store) (W : XK), vs = [V.ref p] ∧ H p = some (itemsO p a) ∧ Sto G j h H ∧ j[n]? = some a ∧ h[n]? = some (.dct l) ∧ PostE G j H (.ok (.ref h.length) (h ++ [.lst (l.map fun p => .tup [p.1, p.2])])) Q W
theorem prs_rel : ∀ {l : List (Va × Va)} {xs ys : List V} {j2 : List Addr} {H2 : Hp} {as : List Addr}, RVs G j2 H2 (l.map (·.1)) xs → RVs G j2 H2 (l.map (·.2)) ys → as.length = l.length →
    (∀ (i : Nat) (b : Addr) (x y : V), as[i]? = some b → xs[i]? = some x → ys[i]? = some y → H2 b = some (.tup [x, y])) → RVs G j2 H2 (l.map fun p => Va.tup [p.1, p.2]) (as.map V.ref)
  | [], _, _, _, _, [], _, _, _, _ => .nil
  | [], _, _, _, _, _ :: _, _, _, e, _ => by cases e
  | _ :: _, _, _, _, _, [], _, _, e, _ => by cases e
  | p :: l, _, _, _, _, b :: as, .cons r1 r2, .cons q1 q2, e, f => .cons (.tup (f 0 b _ _ rfl rfl rfl) (.cons r1 (.cons q1 .nil))) (prs_rel r2 q2 (by simpa using e) fun i b x y h1 h2 h3 => f (i + 1) b x y (by simpa using h1) (by simpa using h2) (by simpa using h3))
theorem cr_listItems (hc : X.calm = true) : CallR X (.type "list") (rListI G) := by
  intro pins s σ H xs us Q I r ⟨p, a, n, l, j, h, W, e, hp, S, ea, el, post⟩
  subst e
  obtain rfl := Vals.ref1 r
  obtain ⟨o, es, ep, ks, ws, h1, h2, h3, h4, hz, k1, k2, k3, k4⟩ := dct_ents I S ea el
  have view : s.heap.IsItemsView p a := (show ObjOk X.prog X.w H s.heap p (itemsO p a) from I.hok p _ hp).1
  refine list_of_items (es := es) (ep := ep) (I.ok.hd hc) view ⟨o, h1, h2, h3⟩ hz fun h' tk acc c as kp eL hl made ha => ?_
  have lk : ks.length = es.size := by rw [k2.length, List.length_map, Array.length_toList]
  have lw : ws.length = es.size := by rw [k4.length, List.length_map, Array.length_toList]
  have I1 : L2.Inv X pins σ (upd H s.heap.objs.size (.lst (as.map V.ref))) { s with heap := h', toks := tk } := by
    refine I.laid (o := .lst (as.map V.ref)) kp (Nat.le_refl _) ⟨by rw [List.length_map, hl]; exact hz, acc.toList, c, ?_, by rw [eL]⟩
    rw [ha]
    exact vals_refs as
  have fresh : ∀ b ∈ as, upd H s.heap.objs.size (.lst (as.map V.ref)) b = none := fun b hb => by
    have lt := made.above b hb
    rw [upd_ne (Nat.ne_of_gt lt)]
    exact I.hok.fresh (Nat.le_of_lt lt)
  obtain ⟨H2, I2, g1, g2⟩ := takeT (P := fun b vs => ∃ i x y, as[i]? = some b ∧ ks[i]? = some x ∧ ws[i]? = some y ∧ vs = [x, y]) I as _ I1 (List.Pairwise.imp (fun h => Nat.ne_of_lt h) made.rise) fun b hb => by
    refine ⟨Nat.le_of_lt (made.above b hb), fresh b hb, ?_⟩
    obtain ⟨i, hi⟩ := List.getElem?_of_mem hb
    obtain ⟨en, he, hg⟩ := made.pairs i b hi
    have lt : i < es.size := by
      have := (List.getElem?_eq_some_iff.mp hi).1
      omega
    obtain ⟨u, hu, ru⟩ := k2.get (i := i) (x := ks[i]'(by omega)) (by simp)
    obtain ⟨v, hv, rv⟩ := k4.get (i := i) (x := ws[i]'(by omega)) (by simp)
    rw [← Array.getElem?_toList] at he
    rw [List.getElem?_map, he] at hu hv
    cases hu
    cases hv
    exact ⟨[ks[i]'(by omega), ws[i]'(by omega)], ⟨i, _, _, hi, List.getElem?_eq_getElem _, List.getElem?_eq_getElem _, rfl⟩, fun H2 => ⟨by show 2 ≤ sizeLine; decide, [en.key, en.val], .cons ru (.cons rv .nil), _, hg, rfl, 0, rfl⟩⟩
  have nd : as.Nodup := List.Pairwise.imp (fun h => Nat.ne_of_lt h) made.rise
  have keep : ∀ b o, H b = some o → H2 b = some o := fun b o e => g1 b o (by rw [upd_ne (ne_of_none e (I.hok.fresh (Nat.le_refl _)))]; exact e)
  have fr0 : H s.heap.objs.size = none := I.hok.fresh (Nat.le_refl _)
  have kp2 : Kp j H (j ++ [s.heap.objs.size]) H2 := ⟨List.prefix_append _ _, fun b ys e => keep b _ e, fun b o u e => keep b _ e⟩
  have ex : Ext j H (j ++ [s.heap.objs.size]) H2 := ⟨kp2, fun b u _ e => keep b u e, fun b hb nb => by
    rcases List.mem_append.mp hb with hb | hb
    · exact absurd hb nb
    · rw [List.mem_singleton.mp hb]
      exact fr0⟩
  have S2 : Sto G j h H2 := ⟨S.len, S.nd, fun m b o h1 h2 => by
    have ro := S.ob m b o h1 h2
    obtain ⟨u, hu, _⟩ := ro.some
    exact ro.mono ⟨List.prefix_refl _, fun b ys e => keep b _ e, fun b o u e => keep b _ e⟩ (by rw [hu, keep _ _ hu])⟩
  have lH : H2 s.heap.objs.size = some (.lst (as.map V.ref)) := g1 _ _ upd_same
  refine ⟨.ref s.heap.objs.size, H2, I2, rfl, post _ _ _ ex (S2.adopt (S.no fr0) ⟨_, lH, ?_⟩) (.ref (by rw [← S.len]; simp))⟩
  refine prs_rel (k1.kp kp2) (k3.kp kp2) (by rw [hl, ← lk, ← k1.length, List.length_map]) fun i b x y z1 z2 z3 => ?_
  obtain ⟨vs, ⟨i', x', y', w1, w2, w3, rfl⟩, w4⟩ := g2 b (List.mem_of_getElem? z1)
  have ii : i = i' := (List.getElem_inj nd).mp ((List.getElem?_eq_some_iff.mp z1).2.trans (List.getElem?_eq_some_iff.mp w1).2.symm)
  subst ii
  rw [z2] at w2
  rw [z3] at w3
  cases w2
  cases w3
  exact w4
end
end Dl
set_option Elab.async false
set_option linter.all false
set_option maxRecDepth 100000
set_option maxHeartbeats 1000000
/-! Slices, built-in functions and methods by values. -/
namespace Dl
open PySem PySem.Spec PyProof.Rows L2
section
variable {X : Cx} {G : Gd} {pins : List (Addr × Obj)} {σ : L2.St} {j : List Addr} {H : Hp} {h : Store} {s : Shared} {x y : V} {u v : Value} {a : Addr}
/-! ### slices -/
theorem sIx_eq : ∀ (n d : Nat) (i : Option Int), HT.sIx n d i = sIx n d i
  | _, _, none => rfl
  | _, _, some _ => rfl
theorem cut_of {l : List Va} {xs : List V} (r : RVs G j H l xs) (lo hi : Option Int) : RVs G j H (cut l lo hi) (cutV xs lo hi) := by
  unfold cut cutV
  rw [sIx_eq, sIx_eq, ← r.length]
  exact (r.drop _).take _
theorem sl_ok (hK : G.K = X.K) : SlR X (fun x lo hi H Q => ∃ j h v W, Sto G j h H ∧ RV G j H v x ∧ PostE G j H (slc h v lo hi) Q W) := by
  rintro pins s σ H x v vl vu lo hi sl Q I rx hs pl pu ⟨j, h, w, W, S, r, p⟩
  have go : ∀ {r : V → Option Int → Option Int → Hp → VK → Prop}, SlR X r → r x lo hi H Q → ∃ T id, typeLookup (.type T) "__getitem__" = pure (some (.builtin id)) ∧ s.TypeIs v T ∧ wpAny (model X.prog X.w) X.A (getItem v (.ref sl)) (EP X pins σ Q) X.xe s :=
    fun ho q => ho pins s σ H x v vl vu lo hi sl Q I rx hs pl pu q
  unfold slc at p
  split at p
  · obtain ⟨a, xs, rfl, q1, rl⟩ := r.rlL
    exact go sl_list ⟨a, xs, rfl, hK ▸ q1, fun t ht => p.newL S (cut_of rl lo hi) ht⟩
  · obtain ⟨a, rfl, e1⟩ := r.refA
    split at p
    · rename_i l hl
      obtain ⟨xs, h1, rl⟩ := S.lst e1 (rd_some hl)
      exact go sl_list ⟨a, xs, rfl, SqL.of h1, fun t ht => p.newL S (cut_of rl lo hi) ht⟩
    · exact p.elim
  · cases r.strE
    split at p
    · rename_i z hz
      refine go sl_str ⟨_, rfl, hz, ?_⟩
      have e : cutS z lo hi = ⟨(cut z.cps.toList lo hi).toArray⟩ := by
        unfold cutS cut
        rw [sIx_eq, sIx_eq]
        rfl
      rw [e]
      exact p.ok S (.str _)
    · exact p.elim
  · obtain ⟨a, xs, rfl, q1, rl⟩ := r.tupT
    refine go sl_tupA ⟨a, xs, rfl, hK ▸ q1, fun z => ?_, fun _ t ht => p.newT S (cut_of rl lo hi) ht⟩
    refine p.ok S ?_
    rename_i l
    have e : cut l lo hi = l := by
      unfold cut
      obtain ⟨z1, z2⟩ := z
      rw [sIx_eq, ← rl.length] at z1 z2
      rw [z1, z2, List.drop_zero, Nat.sub_zero, List.take_length]
    rw [e]
    exact r
  · exact p.elim
/-! ### isinstance -/
def Tyk.nm : Tyk → String
  | .int => "int"
  | .bool => "bool"
  | .str => "str"
  | .list => "list"
  | .tuple => "tuple"
  | .dict => "dict"
theorem kit_tyk (K : PySem.W.Frag) (a : String) (ha : a ∈ ["NoneType", "bool", "int", "str", "list", "tuple", "dict"]) (t : Tyk) : PySem.W.kitOne K (.type a) (.type t.nm) = some (decide (a = t.nm) || (decide (a = "bool") && decide (t = .int))) := by
  refine kit_ty ?_
  simp only [List.mem_cons, List.mem_nil_iff, or_false] at ha
  rcases ha with rfl | rfl | rfl | rfl | rfl | rfl | rfl <;> cases t <;> decide +kernel
theorem isi_ok (hK : G.K = X.K) (t : Tyk) : CallR X (.builtin "isinstance") (fun xs H Q => ∃ j h v x b, xs = [x, .ty t.nm] ∧ Sto G j h H ∧ RV G j H v x ∧ isTy h t v = some b ∧ Q (.bl b) H) := by
  rintro pins s σ H xs us Q I r ⟨j, h, v, x, b, rfl, S, rx, e, q⟩
  have go : ∀ (a : String), a ∈ ["NoneType", "bool", "int", "str", "list", "tuple", "dict"] → TyX X.K H x (.type a) → b = (decide (a = t.nm) || (decide (a = "bool") && decide (t = .int))) →
      wpAny (model X.prog X.w) X.A (call (.builtin "isinstance") us) (EP X pins σ Q) X.xe s := fun a ha ty eb =>
    call_isi pins s σ H _ us Q I r ⟨x, .ty t.nm, .type a, .type t.nm, b, rfl, .ty _, ty, by rw [eb]; exact kit_tyk _ a ha t, q⟩
  unfold isTy at e
  cases v with
  | non =>
    cases rx.nonE
    cases e
    exact go "NoneType" (by decide) (.base .non) (by cases t <;> decide)
  | bl c =>
    cases rx.blE
    cases e
    exact go "bool" (by decide) (.base (.bl c)) (by cases t <;> decide)
  | int c =>
    cases rx.intE
    cases e
    exact go "int" (by decide) (.base (.int c)) (by cases t <;> decide)
  | str c =>
    cases rx.strE
    cases e
    exact go "str" (by decide) (.base (.str c)) (by cases t <;> decide)
  | tup l =>
    cases e
    refine go "tuple" (by decide) ?_ (by cases t <;> decide)
    cases rx with
    | tup e _ => exact .base (.tup e)
    | ktup _ k _ =>
      obtain ⟨o, its, n, hk, hc, _⟩ := k
      exact .kTuple (hK ▸ hk) hc
  | rl l =>
    cases e
    refine go "list" (by decide) ?_ (by cases t <;> decide)
    cases rx with
    | rl e _ => exact .base (.frz e)
    | krl k _ =>
      obtain ⟨o, its, n, hk, hc, _⟩ := k
      exact .kList (hK ▸ hk) hc
  | ref n =>
    obtain ⟨a, rfl, e1⟩ := rx.refA
    dsimp only at e
    split at e
    · rename_i l hl
      obtain ⟨xs, h1, _⟩ := S.lst e1 hl
      cases e
      exact go "list" (by decide) (.base (.lst h1)) (by cases t <;> decide)
    · rename_i l hl
      cases e
      refine go "dict" (by decide) ?_ (by cases t <;> decide)
      rcases S.ob n a _ e1 hl with ⟨ks, h1, _⟩ | ⟨ks, h1, _⟩
      · exact .base (.dK h1)
      · exact .base (.dT h1)
    · cases e
  | hx => cases e
/-! ### built-in functions -/
def Bi.py : Bi → Value
  | .len => .builtin "len"
  | .abs => .builtin "abs"
  | .min => .builtin "min"
  | .max => .builtin "max"
  | .sum => .builtin "sum"
  | .sorted => .builtin "sorted"
  | .list => .type "list"
  | .dict => .type "dict"
  | .tuple => .type "tuple"
  | .int => .type "int"
  | .str => .type "str"
  | .divmod => .builtin "divmod"
  | .isi _ => .builtin "isinstance"
theorem ints_of : ∀ {l : List Va} {xs : List V} {is : List Int}, RVs G j H l xs → ints? l = some is → xs = is.map V.int
  | [], _, is, r, e => by
    cases e
    exact r.nilE
  | v :: l, _, is, r, e => by
    unfold ints? at e
    rw [List.map_cons] at e
    obtain ⟨i, ir, e1, e2, rfl⟩ := allO_cons e
    obtain ⟨w, ws, rfl, r1, r2⟩ := r.consE
    rw [ints_of r2 e2]
    split at e1
    · cases e1
      rw [r1.intE]
      rfl
    · cases e1
theorem max_fold : ∀ (is : List Int) (i : Int), (is.foldl max i ∈ i :: is) ∧ (∀ y ∈ i :: is, y ≤ is.foldl max i)
  | [], i => ⟨by simp, fun y hy => by simp at hy; simp [hy]⟩
  | k :: is, i => by
    obtain ⟨h1, h2⟩ := max_fold is (max i k)
    rw [List.foldl_cons]
    have hm : max i k ≤ is.foldl max (max i k) := h2 _ List.mem_cons_self
    refine ⟨?_, fun y hy => ?_⟩
    · rcases List.mem_cons.mp h1 with e | e
      · rw [e]
        by_cases c : i ≤ k
        · rw [Int.max_eq_right c]; simp
        · rw [Int.max_eq_left (by omega)]; simp
      · simp [e]
    · rcases List.mem_cons.mp hy with rfl | hy
      · omega
      · rcases List.mem_cons.mp hy with rfl | hy
        · omega
        · exact h2 y (List.mem_cons_of_mem _ hy)
theorem min_fold : ∀ (is : List Int) (i : Int), (is.foldl min i ∈ i :: is) ∧ (∀ y ∈ i :: is, is.foldl min i ≤ y)
  | [], i => ⟨by simp, fun y hy => by simp at hy; simp [hy]⟩
  | k :: is, i => by
    obtain ⟨h1, h2⟩ := min_fold is (min i k)
    rw [List.foldl_cons]
    have hm : is.foldl min (min i k) ≤ min i k := h2 _ List.mem_cons_self
    refine ⟨?_, fun y hy => ?_⟩
    · rcases List.mem_cons.mp h1 with e | e
      · rw [e]
        by_cases c : i ≤ k
        · rw [Int.min_eq_left c]; simp
        · rw [Int.min_eq_right (by omega)]; simp
      · simp [e]
    · rcases List.mem_cons.mp hy with rfl | hy
      · omega
      · rcases List.mem_cons.mp hy with rfl | hy
        · omega
        · exact h2 y (List.mem_cons_of_mem _ hy)
theorem prs_of : ∀ {l : List Va} {xs : List V} {ps : List (Va × Va)}, RVs G j H l xs → prs? l = some ps → (ps.all fun p => kOk p.1) = true →
    ∃ (as : List Addr) (kvs : List (Key × V)), xs = as.map V.ref ∧ Paired (fun p kv => SqT G.K H p [kV kv.1, kv.2]) as kvs ∧ Paired (fun p q => keyV p.1 = some q.1 ∧ RV G j H p.2 q.2) ps kvs
  | [], _, _, r, e, _ => by
    cases e
    exact ⟨[], [], r.nilE, .nil, .nil⟩
  | v :: l, _, _, r, e, f => by
    unfold prs? at e
    rw [List.map_cons] at e
    obtain ⟨p, pr, e1, e2, rfl⟩ := allO_cons e
    obtain ⟨w, ws, rfl, r1, r2⟩ := r.consE
    rw [List.all_cons, Bool.and_eq_true] at f
    obtain ⟨as, kvs, rfl, q1, q2⟩ := prs_of r2 e2 f.2
    split at e1
    · cases e1
      obtain ⟨a, xs, rfl, q, rl⟩ := r1.tupT
      obtain ⟨x1, ys, rfl, rk, rl⟩ := rl.consE
      obtain ⟨x2, ys, rfl, rv, rl⟩ := rl.consE
      cases rl.nilE
      obtain ⟨k, hk⟩ := kOk_key f.1
      rw [keyV_rel hk rk] at q
      exact ⟨a :: as, (k, x2) :: kvs, rfl, .cons q q1, .cons ⟨hk, rv⟩ q2⟩
    · cases e1
theorem merge_of : ∀ {ps : List (Va × Va)} {kvs : List (Key × V)} {acc : List (Va × Va)} {ks : List (Key × V)}, Paired (fun p q => keyV p.1 = some q.1 ∧ RV G j H p.2 q.2) ps kvs → Paired (fun p q => keyV p.1 = some q.1 ∧ RV G j H p.2 q.2) acc ks →
    Paired (fun p q => keyV p.1 = some q.1 ∧ RV G j H p.2 q.2) (ps.foldl (fun acc p => dput acc p.1 p.2) acc) (mergeK ks kvs)
  | _, _, _, _, .nil, a => a
  | _, _, _, _, .cons h r, a => by
    unfold mergeK
    rw [List.foldl_cons, List.foldl_cons]
    exact merge_of r (dput_put keyV_inj h.1 h.2 a)
theorem bfn_ok (hK : G.K = X.K) (hc : X.calm = true) (hu : X.A.units + 64 < cLine) (b : Bi) (nb : ∀ t, b ≠ .isi t) : CallR X b.py (VL G fun h vs => bfn G.gl b h vs) := by
  rintro pins s σ H xs us Q I ru ⟨j, h, vs, W, S, r0, p⟩
  have go : ∀ {r : List V → Hp → VK → Prop}, CallR X b.py r → r xs H Q → wpAny (model X.prog X.w) X.A (call b.py us) (EP X pins σ Q) X.xe s := fun ho q => ho pins s σ H xs us Q I ru q
  have one : ∀ {v : Va}, RVs G j H [v] xs → ∃ x, xs = [x] ∧ RV G j H v x := fun {v} r => by
    obtain ⟨x, ys, rfl, r1, r2⟩ := r.consE
    cases r2.nilE
    exact ⟨x, rfl, r1⟩
  have two : ∀ {v w : Va}, RVs G j H [v, w] xs → ∃ x y, xs = [x, y] ∧ RV G j H v x ∧ RV G j H w y := fun {v w} r => by
    obtain ⟨x, ys, rfl, r1, q2⟩ := r.consE
    obtain ⟨y, ys, rfl, r2, q3⟩ := q2.consE
    cases q3.nilE
    exact ⟨x, y, rfl, r1, r2⟩
  by_cases hso : b = .sorted
  · subst hso
    exact go (sorted_ok hK hc hu) ⟨j, h, vs, W, S, r0, p⟩
  dsimp only at p
  unfold bfn at p
  split at p
  -- len
  · obtain ⟨x, rfl, r⟩ := one r0
    cases r.strE
    split at p
    · exact go call_len_str ⟨_, rfl, (by assumption), p.ok S (.int _)⟩
    · exact p.elim
  · obtain ⟨x, rfl, r⟩ := one r0
    obtain ⟨a, rfl, e1⟩ := r.refA
    split at p
    · rename_i l hl
      obtain ⟨ys, h1, rl⟩ := S.lst e1 hl
      refine go call_len_seq ⟨a, ys, rfl, .inl (SqL.of h1), ?_⟩
      rw [← rl.length]
      exact p.ok S (.int _)
    · rename_i l hl
      rcases S.ob _ a _ e1 hl with ⟨ks, h1, pr⟩ | ⟨ks, h1, pr⟩
      · refine go call_lenD ⟨a, ks, rfl, h1, ?_⟩
        rw [← Paired.length pr]
        exact p.ok S (.int _)
      · refine go call_len_dT ⟨a, ks, rfl, h1, ?_⟩
        rw [← Paired.length pr]
        exact p.ok S (.int _)
    · exact p.elim
  · obtain ⟨x, rfl, r⟩ := one r0
    obtain ⟨a, ys, rfl, q1, rl⟩ := r.tupT
    refine go call_len_seq ⟨a, ys, rfl, .inr (hK ▸ q1), ?_⟩
    rw [← rl.length]
    exact p.ok S (.int _)
  · obtain ⟨x, rfl, r⟩ := one r0
    obtain ⟨a, ys, rfl, q1, rl⟩ := r.rlL
    refine go call_len_seq ⟨a, ys, rfl, .inl (hK ▸ q1), ?_⟩
    rw [← rl.length]
    exact p.ok S (.int _)
  -- abs, max, min
  · obtain ⟨x, rfl, r⟩ := one r0
    cases r.intE
    exact go call_abs ⟨_, rfl, p.ok S (.int _)⟩
  · obtain ⟨x, y, rfl, r1, r2⟩ := two r0
    cases r1.intE
    cases r2.intE
    exact go (call_max2 hc) ⟨_, _, rfl, p.ok S (.int _)⟩
  · obtain ⟨x, y, rfl, r1, r2⟩ := two r0
    cases r1.intE
    cases r2.intE
    exact go (call_min2 hc) ⟨_, _, rfl, p.ok S (.int _)⟩
  · obtain ⟨x, y, rfl, r1, r2⟩ := two r0
    cases r1.strE
    cases r2.strE
    exact go (minmax_str_max hc) ⟨_, _, rfl, p.ok S (.str _)⟩
  · obtain ⟨x, y, rfl, r1, r2⟩ := two r0
    cases r1.strE
    cases r2.strE
    exact go (minmax_str_min hc) ⟨_, _, rfl, p.ok S (.str _)⟩
  · obtain ⟨x, rfl, r⟩ := one r0
    obtain ⟨a, rfl, e1⟩ := r.refA
    split at p
    · rename_i l hl
      obtain ⟨ys, h1, rl⟩ := S.lst e1 (rd_some hl)
      split at p
      · rename_i i is hi
        rw [ints_of rl hi] at h1
        obtain ⟨m1, m2⟩ := max_fold is i
        refine go (cr_max hc) ⟨a, i :: is, rfl, SqL.of h1, by simp, fun m h3 h4 => ?_⟩
        have e : m = is.foldl max i := Int.le_antisymm (m2 m h3) (h4 _ m1)
        rw [e]
        exact p.ok S (.int _)
      · exact p.elim
    · exact p.elim
  · obtain ⟨x, rfl, r⟩ := one r0
    obtain ⟨a, rfl, e1⟩ := r.refA
    split at p
    · rename_i l hl
      obtain ⟨ys, h1, rl⟩ := S.lst e1 (rd_some hl)
      split at p
      · rename_i i is hi
        rw [ints_of rl hi] at h1
        obtain ⟨m1, m2⟩ := min_fold is i
        refine go (cr_min hc) ⟨a, i :: is, rfl, SqL.of h1, by simp, fun m h3 h4 => ?_⟩
        have e : m = is.foldl min i := Int.le_antisymm (h4 _ m1) (m2 m h3)
        rw [e]
        exact p.ok S (.int _)
      · exact p.elim
    · exact p.elim
  -- sum
  · obtain ⟨x, rfl, r⟩ := one r0
    obtain ⟨a, rfl, e1⟩ := r.refA
    split at p
    · rename_i l hl
      obtain ⟨ys, h1, rl⟩ := S.lst e1 (rd_some hl)
      split at p
      · rename_i is hi
        rw [ints_of rl hi] at h1
        exact go (cr_sum hc) ⟨a, is, rfl, SqL.of h1, p.ok S (.int _)⟩
      · exact p.elim
    · exact p.elim
  -- sorted
  · exact absurd rfl hso
  -- list
  · obtain ⟨x, rfl, r⟩ := one r0
    obtain ⟨a, rfl, e1⟩ := r.refA
    split at p
    · rename_i l hl
      obtain ⟨ys, h1, rl⟩ := S.lst e1 hl
      exact go call_list_of ⟨a, ys, rfl, .inl (SqL.of h1), fun t ht => p.newL S rl ht⟩
    · exact p.elim
  · obtain ⟨x, rfl, r⟩ := one r0
    obtain ⟨a, ys, rfl, q1, rl⟩ := r.tupT
    exact go call_list_of ⟨a, ys, rfl, .inr (hK ▸ q1), fun t ht => p.newL S rl ht⟩
  · obtain ⟨x, rfl, r⟩ := one r0
    obtain ⟨a, ys, rfl, q1, rl⟩ := r.rlL
    exact go call_list_of ⟨a, ys, rfl, .inl (hK ▸ q1), fun t ht => p.newL S rl ht⟩
  -- tuple
  · obtain ⟨x, rfl, r⟩ := one r0
    obtain ⟨a, rfl, e1⟩ := r.refA
    split at p
    · rename_i l hl
      obtain ⟨ys, h1, rl⟩ := S.lst e1 (rd_some hl)
      exact go call_tuple_of ⟨a, ys, rfl, .inl ⟨SqL.of h1, fun t ht => p.newT S rl ht⟩⟩
    · exact p.elim
  · obtain ⟨x, rfl, r⟩ := one r0
    obtain ⟨a, ys, rfl, q1, rl⟩ := r.tupT
    exact go call_tuple_of ⟨a, ys, rfl, .inr ⟨hK ▸ q1, p.ok S r⟩⟩
  -- dict
  · obtain ⟨x, rfl, r⟩ := one r0
    obtain ⟨a, rfl, e1⟩ := r.refA
    split at p
    · rename_i l hl
      split at p
      · rename_i f
        rcases S.ob _ a _ e1 hl with ⟨ks, h1, pr⟩ | ⟨ks, h1, pr⟩
        · exact go call_dictD ⟨a, ks, rfl, .inl h1, fun t ht => p.newO S ht fun ex e => .inl ⟨ks, e, Paired.imp' pr fun _ _ z => ⟨z.1, z.2.mono ex⟩⟩⟩
        · have l0 : l = [] ∧ ks = [] := by
            cases pr with
            | nil => exact ⟨rfl, rfl⟩
            | @cons p0 q0 _ _ h2 _ =>
              rw [List.all_cons, Bool.and_eq_true] at f
              obtain ⟨_, z, _, _⟩ := keyT_tup h2.1
              rw [z] at f
              exact absurd f.1 (by simp [kOk])
          obtain ⟨rfl, rfl⟩ := l0
          have I2 := toK I h1
          have ex2 : Ext j H j (upd H a (.dK [])) := Ext.put S e1
          have S2 : Sto G j h (upd H a (.dK [])) := by
            have := S.put (u := .dK []) (o := .dct []) e1 (.inl ⟨[], upd_same, .nil⟩)
            rwa [set_self hl] at this
          exact call_dictD pins s σ _ _ us Q I2 ru ⟨a, [], rfl, .inl upd_same, fun t ht => (p.mono ex2).newO S2 ht fun ex e => .inl ⟨[], e, .nil⟩⟩
      · exact p.elim
    · rename_i l hl
      obtain ⟨ys, h1, rl⟩ := S.lst e1 hl
      split at p
      · rename_i ps hp
        split at p
        · rename_i f
          obtain ⟨as, kvs, rfl, q1, q2⟩ := prs_of rl hp f
          rw [hK] at q1
          exact go (call_dictP hc) ⟨a, as, kvs, rfl, SqL.of h1, q1, fun t ht => p.newO S ht fun ex e => .inl ⟨_, e, Paired.imp' (merge_of q2 .nil) fun _ _ z => ⟨z.1, z.2.mono ex⟩⟩⟩
        · exact p.elim
      · exact p.elim
    · exact p.elim
  -- int, str
  · obtain ⟨x, rfl, r⟩ := one r0
    cases r.intE
    exact go call_int1 (.inl ⟨_, rfl, p.ok S (.int _)⟩)
  · obtain ⟨x, rfl, r⟩ := one r0
    cases r.blE
    exact go call_int1 (.inr ⟨_, rfl, p.ok S (.int _)⟩)
  · obtain ⟨x, rfl, r⟩ := one r0
    cases r.intE
    split at p
    · exact go call_str_int ⟨_, rfl, (by assumption), p.ok S (.str _)⟩
    · exact p.elim
  · obtain ⟨x, rfl, r⟩ := one r0
    cases r.strE
    exact go SkE.call_str_str ⟨_, rfl, p.ok S (.str _)⟩
  · obtain ⟨x, y, rfl, r1, r2⟩ := two r0
    cases r1.intE
    cases r2.intE
    split at p
    · rename_i hj
      exact go call_divmodW ⟨_, _, rfl, ⟨hj.1, PyProof.noPylong_of_log2 hj.2⟩, fun t ht => p.newT S (.cons (.int _) (.cons (.int _) .nil)) ht⟩
    · exact p.elim
  · exact absurd rfl (nb _)
  · exact p.elim
/-! ### methods -/
/-- o.m(..), by the interpreter's step -/
def VM (G : Gd) (f : Store → Va → List Va → R) : V → List V → Hp → VK → Prop := fun x xs H Q => ∃ j h v vs W, Sto G j h H ∧ RV G j H v x ∧ RVs G j H vs xs ∧ PostE G j H (f h v vs) Q W
theorem append_ok : MtR X "list.append" (VM G fun h v vs => bmf .append h v vs) := by
  rintro pins s σ H x xs v us Q I rx ru ⟨j, h, w, ws, W, S, r, r0, p⟩
  dsimp only at p
  unfold bmf at p
  split at p <;> first
    | exact p.elim
    | (rename_i hb; cases hb; done)
    | skip
  · obtain ⟨y, ys, rfl, r1, r2⟩ := r0.consE
    cases r2.nilE
    obtain ⟨a, rfl, e1⟩ := r.refA
    split at p
    · rename_i l hl
      obtain ⟨xs, h1, rl⟩ := S.lst e1 (rd_some hl)
      split at p
      · rename_i hz
        exact mt_append pins s σ H _ _ v us Q I rx ru ⟨a, xs, y, rfl, rfl, h1, by rw [← rl.length]; exact hz, p.putL S e1 (rl.append (.cons r1 .nil)) .non⟩
      · exact p.elim
    · exact p.elim
theorem reverse_ok : MtR X "list.reverse" (VM G fun h v vs => bmf .reverse h v vs) := by
  rintro pins s σ H x xs v us Q I rx ru ⟨j, h, w, ws, W, S, r, r0, p⟩
  dsimp only at p
  unfold bmf at p
  split at p <;> first
    | exact p.elim
    | (rename_i hb; cases hb; done)
    | skip
  · cases r0.nilE
    obtain ⟨a, rfl, e1⟩ := r.refA
    split at p
    · rename_i l hl
      obtain ⟨xs, h1, rl⟩ := S.lst e1 (rd_some hl)
      exact mt_reverse pins s σ H _ _ v us Q I rx ru ⟨a, xs, rfl, rfl, h1, p.putL S e1 rl.rev .non⟩
    · exact p.elim
end
end Dl
set_option Elab.async false
set_option linter.all false
set_option maxRecDepth 100000
set_option maxHeartbeats 1000000
/-! Which text a program of the small language stands for. -/
namespace Dl
open PySem L2
def vis (sc : Scope) (x : Str) : Bool := match sc.names.lookup x with
  | some .local => true
  | some .cell => true
  | some .free => true
  | _ => false
def loc (sc : Scope) (x : Str) : Bool := match sc.names.lookup x with
  | some .local => true
  | some .cell => true
  | _ => false
def locl (sc : Scope) (x : Str) : Bool := match sc.names.lookup x with
  | some .local => true
  | _ => false
def gli (sc : Scope) (x : Str) : Bool := match sc.names.lookup x with
  | some .globalImplicit => true
  | _ => false
def okN (x : Str) : Bool := !(x == "__debug__") && !(x == "__classdict__") && !decide (x = "__name__")
def Bi.nm : Bi → Str
  | .len => "len"
  | .abs => "abs"
  | .min => "min"
  | .max => "max"
  | .sum => "sum"
  | .sorted => "sorted"
  | .list => "list"
  | .dict => "dict"
  | .tuple => "tuple"
  | .int => "int"
  | .str => "str"
  | .divmod => "divmod"
  | .isi _ => "isinstance"
def Tyk.ns : Tyk → Str
  | .int => "int"
  | .bool => "bool"
  | .str => "str"
  | .list => "list"
  | .tuple => "tuple"
  | .dict => "dict"
def Bm.nm : Bm → Str
  | .append => "append"
  | .clear => "clear"
  | .reverse => "reverse"
  | .items => "items"
  | .values => "values"
  | .insert => "insert"
  | .pop => "pop"
  | .split => "split"
  | .join => "join"
  | .partition => "partition"
  | .find => "find"
  | .index => "index"
  | .update => "update"
  | .replace => "replace"
/-- a receiver whose attribute is looked up plainly -/
def plainO : Expr → Bool
  | .Call (.Name _ _) [] [] _ => false
  | _ => true
/-- what may stand as an index -/
def notSl : Expr → Bool
  | .Slice .. => false
  | _ => true
def blkB (N : List Str) (sc scope : Scope) (own : List Nat) : Bool :=
  (match scope.kind with | .function => true | _ => false) && (scope.names.all fun y => decide (scope.names.lookup y.1 = some y.2)) && (own.all fun i => (N[i]?).isSome) &&
  scope.names.all fun y => match y.2 with
    | .free => (match sc.names.lookup y.1 with | some .cell => true | some .free => true | _ => false)
    | .local => decide (y.1 ∈ own.filterMap fun i => N[i]?) || decide (y.1 ∉ N)
    | .cell => decide (y.1 ∈ own.filterMap fun i => N[i]?) || decide (y.1 ∉ N)
    | _ => true
def chkT (N : List Str) (sc : Scope) : Tg → Expr → Bool
  | .nm i, a => match a with
    | .Name x _ => decide (N[i]? = some x) && loc sc x
    | _ => false
  | .tup ts, a => match a with
    | .Tuple es _ _ => chkTs ts es
    | _ => false
where
  chkTs : List Tg → List Expr → Bool
    | [], [] => true
    | t :: ts, e :: es => chkT N sc t e && chkTs ts es
    | _, _ => false
def cval : Va → Const → Bool
  | .non, .none => true
  | .bl b, .bool c => b == c
  | .int i, .int k => i == k
  | .str s, .str t => decide (s = t)
  | _, _ => false
mutual
/-- the slots of a target -/
def tgN : Tg → List Nat
  | .nm i => [i]
  | .tup ts => tgNs ts
def tgNs : List Tg → List Nat
  | [] => []
  | t :: ts => tgN t ++ tgNs ts
end
/-- the methods that are run -/
def Bm.ok : Bm → Bool
  | .append => true
  | .reverse => true
  | .clear => true
  | _ => false
/-- the views that a list is made of -/
def Bm.dlk : Bm → Bool
  | .items => true
  | _ => false
mutual
def chkE (M : Nm) (N : List Str) (sc : Scope) : Ex → Expr → Bool
  | .v i, a => match a with
    | .Name x _ => decide (N[i]? = some x) && vis sc x && okN x
    | _ => false
  | .k c, a => match a with
    | .Constant k _ _ => cval c k
    | _ => false
  | .g i, a => match a with
    | .Name x _ => decide (M.gl[i]? = some x) && gli sc x && okN x
    | _ => false
  | .tup es, a => match a with
    | .Tuple as _ _ => chkL M N sc es as && decide (as.length ≤ 1000)
    | _ => false
  | .lst es, a => match a with
    | .List as _ => chkL M N sc es as && decide (as.length ≤ 1000)
    | _ => false
  | .dct0, a => match a with
    | .Dict [] [] _ => true
    | _ => false
  | .bin o x y, a => match a with
    | .BinOp p q r _ => decide (q = o.py) && chkE M N sc x p && chkE M N sc y r
    | _ => false
  | .neg x, a => match a with
    | .UnaryOp .USub p _ => chkE M N sc x p
    | _ => false
  | .nt x, a => match a with
    | .UnaryOp .Not p _ => chkE M N sc x p
    | _ => false
  | .an es, a => match a with
    | .BoolOp .And as _ => chkL M N sc es as
    | _ => false
  | .or es, a => match a with
    | .BoolOp .Or as _ => chkL M N sc es as
    | _ => false
  | .cmp o x y, a => match a with
    | .Compare p [q] [r] _ => decide (q = o.py) && chkE M N sc x p && chkE M N sc y r
    | _ => false
  | .cmp2 o o' x y z, a => match a with
    | .Compare p [q, q'] [r, t] _ => decide (q = o.py) && decide (q' = o'.py) && chkE M N sc x p && chkE M N sc y r && chkE M N sc z t
    | _ => false
  | .call f es, a => match a with
    | .Call (.Name x _) as [] _ => decide (M.fn[f]? = some x) && decide (x ≠ "") && gli sc x && okN x && decide (as ≠ []) && chkL M N sc es as
    | _ => false
  | .mk c es, a => match a with
    | .Call (.Name x _) as [] _ => decide (M.cls[c]? = some x) && decide (c ∈ M.mkb) && gli sc x && okN x && chkL M N sc es as
    | _ => false
  | .meth m o es, a => match a with
    | .Call (.Attribute p n ap) as [] cp => decide (M.mth[m]? = some n) && plainO p && (ap.endLine == cp.line) && decide (as.length < 20) && chkE M N sc o p && chkL M N sc es as
    | _ => false
  | .bi b es, a => match a with
    | .Call (.Name x _) as [] _ => decide (x = b.nm) && gli sc x && (match b with
      | .isi t => (match es with
        | [e] => (match as with
          | [p, .Name y _] => chkE M N sc e p && decide (y = t.ns) && gli sc y
          | _ => false)
        | _ => false)
      | _ => decide (as ≠ []) && chkL M N sc es as)
    | _ => false
  | .bm b o es, a => match a with
    | .Call (.Attribute p n ap) as [] cp => b.ok && (decide (b ≠ .clear) || as.isEmpty) && decide (n = b.nm) && plainO p && (ap.endLine == cp.line) && decide (as.length < 20) && chkE M N sc o p && chkL M N sc es as
    | _ => false
  | .fld o f, a => match a with
    | .Attribute p n _ => decide (M.fld[f]? = some n) && plainO p && chkE M N sc o p
    | _ => false
  | .ix x y, a => match a with
    | .Subscript p q _ => notSl q && chkE M N sc x p && chkE M N sc y q
    | _ => false
  | .sl x lo hi, a => match a with
    | .Subscript p (.Slice l h none _) _ => chkE M N sc x p && chkO M N sc lo l && chkO M N sc hi h
    | _ => false
  | .ife c x y, a => match a with
    | .IfExp p q r _ => chkE M N sc c p && chkE M N sc x q && chkE M N sc y r
    | _ => false
  | .comp e t it cond own, a => match a with
    | .ListComp elt [⟨tg, iter, ifs, 0⟩] scope _ => blkB N sc scope own && ((tgN t).all fun i => decide (i ∈ own)) && chkT N scope t tg && chkE M N sc it iter && chkE M N scope e elt && (match ifs with
      | [] => (match cond with | none => true | _ => false)
      | [c] => (match cond with | some d => chkE M N scope d c | _ => false)
      | _ => false)
    | _ => false
  | .compR e t es cond own, a => match a with
    | .ListComp elt [⟨tg, .Call (.Name x _) as [] _, ifs, 0⟩] scope _ => decide (x = "range") && gli sc x && chkL M N sc es as && (as.length == 1 || as.length == 2) && blkB N sc scope own && ((tgN t).all fun i => decide (i ∈ own)) && chkT N scope t tg && chkE M N scope e elt && (match ifs with
      | [] => (match cond with | none => true | _ => false)
      | [c] => (match cond with | some d => chkE M N scope d c | _ => false)
      | _ => false)
    | _ => false
  | .isx x c, a => false
  | .dl b o, a => match a with
    | .Call (.Name x _) [.Call (.Attribute p n ap) [] [] cp] [] _ => decide (x = "list") && gli sc x && b.dlk && decide (n = b.nm) && plainO p && (ap.endLine == cp.line) && chkE M N sc o p
    | _ => false
def chkL (M : Nm) (N : List Str) (sc : Scope) : List Ex → List Expr → Bool
  | [], [] => true
  | e :: es, a :: as => chkE M N sc e a && chkL M N sc es as
  | _, _ => false
def chkO (M : Nm) (N : List Str) (sc : Scope) : Option Ex → Option Expr → Bool
  | none, none => true
  | some e, some a => chkE M N sc e a
  | _, _ => false
end
/-- a list comprehension -/
def isLc : Expr → Bool
  | .ListComp .. => true
  | .SetComp .. => true
  | .DictComp .. => true
  | _ => false
def isTup : Expr → Bool
  | .Tuple .. => true
  | .List .. => true
  | _ => false
def blkL : Expr → Str → Bool
  | .ListComp _ _ scope p, y => !(scope.names.any fun (n, k) => n == y && (k == .local || k == .cell))
  | _, _ => false
/-- a remark, no statement -/
def isFz : Sm → Bool
  | .frz _ => true
  | _ => false
def foldish (vs : List Expr) : Bool := vs.all (foldedForSure 8) || vs.all (constantsAlone 8)
mutual
def chkS (M : Nm) (N : List Str) (sc : Scope) : Sm → Stmt → Bool
  | .asg t e, st => match st with
    | .Assign [tg] a _ => chkT N sc t tg && chkE M N sc e a && (if isLc a then (match tg with
        | .Name y py => locl sc y && (py.line == a.pos.line) && blkL a y && (match t with
          | .nm _ => true
          | _ => false)
        | _ => false) else !(isTup tg && isTup a))
    | _ => false
  | .par i j e f, st => match st with
    | .Assign [.Tuple [.Name x px, .Name y py] _ _] (.Tuple [a, b] _ _) _ => decide (N[i]? = some x) && decide (N[j]? = some y) && decide (i ≠ j) && decide (x ≠ y) && locl sc x && locl sc y && (px.line == py.line) && !foldish [a, b] && chkE M N sc e a && chkE M N sc f b
    | _ => false
  | .fld o f e, st => match st with
    | .Assign [.Attribute p n _] a _ => decide (M.fld[f]? = some n) && chkE M N sc o p && chkE M N sc e a
    | _ => false
  | .sub o i e, st => match st with
    | .Assign [.Subscript p q _] a _ => chkE M N sc o p && chkE M N sc i q && chkE M N sc e a
    | _ => false
  | .ex e, st => match st with
    | .Expr a _ => !isLc a && chkE M N sc e a
    | _ => false
  | .ret e, st => match st with
    | .Return (some a) _ => chkE M N sc e a
    | _ => false
  | .retN, st => match st with
    | .Return none _ => true
    | _ => false
  | .pass, st => match st with
    | .Pass _ => true
    | _ => false
  | .ite c a b, st => match st with
    | .If t p q _ => chkE M N sc c t && chkB M N sc a p && chkB M N sc b q
    | _ => false
  | .fr t it b, st => match st with
    | .For tg iter body [] _ => chkT N sc t tg && chkE M N sc it iter && chkB M N sc b body
    | _ => false
  | .frR t es b, st => match st with
    | .For tg (.Call (.Name x _) as [] _) body [] _ => decide (x = "range") && gli sc x && chkL M N sc es as && (as.length == 1 || as.length == 2) && chkT N sc t tg && chkB M N sc b body
    | _ => false
  | .whl c b, st => match st with
    | .While t body [] _ => chkE M N sc c t && chkB M N sc b body
    | _ => false
  | .tryn b, st => match st with
    | .Try body (_ :: _) [] [] _ => chkB M N sc b body
    | _ => false
  | .nvr, _ => true
  | _, _ => false
def chkB (M : Nm) (N : List Str) (sc : Scope) : List Sm → List Stmt → Bool
  | [], as => as.isEmpty
  | s :: r, as => if isFz s = true then chkB M N sc r as else match as with
    | t :: q => chkS M N sc s t && chkB M N sc r q
    | [] => false
end
end Dl
set_option Elab.async false
set_option linter.all false
set_option maxRecDepth 100000
set_option maxHeartbeats 2000000
/-! The small language's expressions, as the machine runs them. -/
namespace Dl
open PySem PySem.Spec PyProof.Rows L2
/-- a program with its places in the machine -/
structure Dt where
  P : Prog
  M : Nm
  FA : Nat → Addr
  FD : Nat → FuncData
  ps : Nat → List Str
  CV : Nat → Value
abbrev Dt.G (D : Dt) (K : PySem.W.Frag) (hx : Option Addr) : Gd := ⟨K, D.P.gl, D.CV, D.M.fld, hx⟩
abbrev Dt.cfg (D : Dt) (k : Nat) : Cfg := { run := run D.P k, gl := D.P.gl, cls := D.P.cls, hd := none, wl := D.P.wl }
/-- what a def of the program promises -/
def Dt.sp (D : Dt) (K : PySem.W.Frag) (k f : Nat) : Sp := fun vs H Q E => vs.length = (D.ps f).length ∧ ∃ j args h, Sto (D.G K none) j h H ∧ RVs (D.G K none) j H args vs ∧ PostE (D.G K none) j H (run D.P k f args h) Q E
def biNames : List Str := ["len", "abs", "min", "max", "sum", "sorted", "list", "dict", "tuple", "int", "str", "divmod", "isinstance", "range", "bool"]
/-- what the program's top has written -/
structure Fx (D : Dt) (P : Program) (w : World) (K : PySem.W.Frag) (mg : Str → Option Value) (base : Heap) (k : Nat) : Prop where
  fn : ∀ (f : Nat) (x : Str), D.M.fn[f]? = some x → x ≠ "" → ∃ d, D.P.fns[f]? = some d ∧ mg x = some (.ref (D.FA f)) ∧ PySem.W.keepIn K (.ref (D.FA f)) = true
  ok : ∀ (f : Nat) (d : Fn), D.P.fns[f]? = some d → FnOk P w K mg base (L2.CX P w) (2 * k) (D.FA f) (D.FD f) (D.ps f) (D.sp K k f)
  bd : ∀ (f : Nat) (d : Fn), D.P.fns[f]? = some d → Binds K (D.FD f) (D.ps f) [] ∧ d.np = (D.ps f).length ∧ d.dv = []
  gl : ∀ (i : Nat) (x : Str) (v : Va), D.M.gl[i]? = some x → D.P.gl[i]? = some v → ∃ u y, mg x = some u ∧ RelV y u ∧ ∀ hx j H, RV (D.G K hx) j H v y
  bi : ∀ x ∈ biNames, mg x = none
  mkC : ∀ (c : Nat) (x : Str), D.M.cls[c]? = some x → c ∈ D.M.mkb → ∃ d f df C, D.P.cls[c]? = some d ∧ d.init = some f ∧ D.P.fns[f]? = some df ∧ D.CV c = .ref C ∧ mg x = some (.ref C) ∧ Mk K C (D.FA f)
  me : ∀ (c : Nat) (d : Cls) (m f : Nat) (x : Str), D.P.cls[c]? = some d → d.meths.lookup m = some f → D.M.mth[m]? = some x → ∃ C, D.CV c = .ref C ∧ L2.Cls K C ∧ Meth K C x (D.FA f) ∧ ∃ df, D.P.fns[f]? = some df
  cs : ∀ (c : Nat) (d : Cls) (f : Nat), D.P.cls[c]? = some d → f ∈ d.flds → ∃ C x, D.CV c = .ref C ∧ L2.Cls K C ∧ D.M.fld[f]? = some x ∧ NoAttr K C x
  mf : ∀ x ∈ D.M.mth, x ∉ D.M.fld
  nf : D.M.fld.Nodup
  wl : ∀ F, D.P.wl F = .bad ∨ ∃ n, D.P.wl F = F n
/-- where code runs and nothing is handled -/
structure Cn (D : Dt) (X : Cx) (k : Nat) (W : WX) : Prop where
  calm : X.calm = true
  nd : X.N.Nodup
  kd : X.env.scope.kind = .function
  rm : Room (2 * k + 1) X.A
  tk : Takes X W
  po : PassesOwn (model X.prog X.w) X.A X.env X.xe
  fx : Fx D X.prog X.w X.K X.mg X.base k
/-! ### readings -/
def tE (G : Gd) (f : Slots → Store → R) (W : WX) : TE := fun σ H Q => ∃ j s h, Sto G j h H ∧ Slo G j H s σ ∧ PostE G j H (f s h) Q fun c d H' => W c d σ H'
def tL (G : Gd) (f : Slots → Store → Rl) (W : WX) : TA := fun σ H Q => ∃ j s h, Sto G j h H ∧ Slo G j H s σ ∧ PostL G j H (f s h) Q fun c d H' => W c d σ H'
theorem _root_.L2.PE.dimp {X : Cx} {e : Expr} {t t' : TE} (h : PE X e t) (i : ∀ σ H Q, t' σ H Q → t σ H Q) : PE X e t' := ⟨fun pins s σ H Q I q => h.run pins s σ H Q I (i σ H Q q)⟩
theorem _root_.L2.PT.dimp {X : Cx} {e : Expr} {t t' : TT} (h : PT X e t) (i : ∀ σ H Q, t' σ H Q → t σ H Q) : PT X e t' := ⟨fun pins s σ H Q I q => h.run pins s σ H Q I (i σ H Q q)⟩
theorem _root_.L2.PA.dimp {X : Cx} {e : List Expr} {t t' : TA} (h : PA X e t) (i : ∀ σ H Q, t' σ H Q → t σ H Q) : PA X e t' := ⟨fun pos pins s σ H Q I q => h.run pos pins s σ H Q I (i σ H Q q)⟩
/-- by one of two rules -/
theorem _root_.L2.PE.dor {X : Cx} {e : Expr} {t t' : TE} (h : PE X e t) (h' : PE X e t') : PE X e (fun σ H Q => t σ H Q ∨ t' σ H Q) :=
  ⟨fun pins s σ H Q I q => q.elim (h.run pins s σ H Q I) (h'.run pins s σ H Q I)⟩
section
variable {X : Cx} {G : Gd} {W : WX} {pos : Pos}
theorem s_v {i : Nat} {x : Str} {C : Cfg} (hN : X.N[i]? = some x) (hv : Vis X.env.scope x) (h1 : (x == ("__debug__" : Str)) = false) (h2 : (x == ("__classdict__" : Str)) = false) : PE X (.Name x pos) (tE G (evE C (.v i)) W) :=
  (pe_var hN hv h1 h2).dimp fun σ H Q ⟨j, s, h, S, L, p⟩ => by
    unfold evE at p
    split at p
    · rename_i v e
      obtain ⟨w, h3, h4⟩ := L.at_ i v e
      exact ⟨w, h3, p.ok S h4⟩
    · exact p.elim
theorem s_k {C : Cfg} {c : Va} {k : Const} {n : Nat} (e : cval c k = true) : PE X (.Constant k n pos) (tE G (evE C (.k c)) W) := by
  unfold cval at e
  split at e
  · exact pe_non.dimp fun σ H Q ⟨j, s, h, S, L, p⟩ => p.ok S .non
  · obtain rfl := eq_of_beq e
    exact pe_bl.dimp fun σ H Q ⟨j, s, h, S, L, p⟩ => p.ok S (.bl _)
  · obtain rfl := eq_of_beq e
    exact pe_int.dimp fun σ H Q ⟨j, s, h, S, L, p⟩ => p.ok S (.int _)
  · obtain rfl := of_decide_eq_true e
    exact pe_str.dimp fun σ H Q ⟨j, s, h, S, L, p⟩ => p.ok S (.str _)
  · cases e
theorem s_g {C : Cfg} {i : Nat} {x : Str} {u : Value} {y : V} {v : Va} (hg : Gl X x) (hm : X.mg x = some u) (r : RelV y u) (hv : C.gl[i]? = some v) (rv : ∀ j H, RV G j H v y) (h1 : (x == ("__debug__" : Str)) = false) : PE X (.Name x pos) (tE G (evE C (.g i)) W) :=
  (pe_glob hg hm r h1).dimp fun σ H Q ⟨j, s, h, S, L, p⟩ => by
    unfold evE at p
    rw [hv] at p
    exact p.ok S (rv j H)
theorem s_never {e : Expr} {f : Slots → Store → R} (hf : ∀ s h, f s h = .bad) : PE X e (tE G f W) :=
  ⟨fun pins s σ H Q I ⟨j, s1, h, S, L, p⟩ => by rw [hf] at p; exact p.elim⟩
/-- one after another -/
theorem s_nil {C : Cfg} : PA X [] (tL G (evL C []) W) := pa_nil.dimp fun σ H Q ⟨j, s, h, S, L, p⟩ => by
  unfold evL at p
  exact p j H [] .refl S .nil
theorem s_cons {C : Cfg} {e : Ex} {es : List Ex} {a : Expr} {as : List Expr} (h1 : PE X a (tE G (evE C e) W)) (h2 : PA X as (tL G (evL C es) W)) (hs : starEach (a :: as) X.env = (false, eval a X.env) :: starEach as X.env) :
    PA X (a :: as) (tL G (evL C (e :: es)) W) := (pa_cons h1 h2 hs).dimp fun σ H Q ⟨j, s, h, S, L, p⟩ => by
  unfold evL at p
  refine ⟨j, s, h, S, L, PostE.bindl p fun j1 H1 h1 v1 x ex S1 r1 p1 => ⟨j1, s, h1, S1, L.mono ex, ?_⟩⟩
  cases q : evL C es s h1 with
  | ok vs h2 =>
    rw [q] at p1
    exact fun j2 H2 w ex2 S2 r2 => p1 j2 H2 (x :: w) ex2 S2 (.cons (r1.mono ex2) r2)
  | exc c fs h2 =>
    rw [q] at p1
    exact p1
  | bad =>
    rw [q] at p1
    exact p1.elim
theorem evL_len {C : Cfg} : ∀ {es : List Ex} {s : Slots} {h h' : Store} {vs : List Va}, evL C es s h = .ok vs h' → vs.length = es.length
  | [], _, _, _, _, e => by
    unfold evL at e
    cases e
    rfl
  | a :: es, s, h, h', vs, e => by
    unfold evL at e
    cases q : evE C a s h with
    | ok v h1 =>
      rw [q] at e
      dsimp only [R.bindl] at e
      cases q2 : evL C es s h1 with
      | ok ws h2 =>
        rw [q2] at e
        cases e
        rw [List.length_cons, List.length_cons, evL_len q2]
      | exc c fs h2 => rw [q2] at e; cases e
      | bad => rw [q2] at e; cases e
    | exc c fs h1 => rw [q] at e; cases e
    | bad => rw [q] at e; cases e
/-- the list's length is known -/
theorem PostL.len {j : List Addr} {H : Hp} {r : Rl} {Q : List V → Hp → Prop} {W : XK} {n : Nat} (hr : ∀ vs h', r = .ok vs h' → vs.length = n) (p : PostL G j H r (fun xs H1 => xs.length = n → Q xs H1) W) : PostL G j H r Q W := by
  cases r with
  | ok v h' => exact fun j' H' w e S q => p j' H' w e S q (by rw [← q.length]; exact hr _ _ rfl)
  | exc c fs h' => exact p
  | bad => exact p
theorem s_tup {C : Cfg} {es : List Ex} {as : List Expr} {n : Nat} (h : PA X as (tL G (evL C es) W)) (hl : es.length ≤ 1000) : PE X (.Tuple as n pos) (tE G (evE C (.tup es)) W) :=
  (pe_tup h).dimp fun σ H Q ⟨j, s, h, S, L, p⟩ => by
    unfold evE at p
    refine ⟨j, s, h, S, L, PostL.len (n := es.length) (fun _ _ e => evL_len e) (PostL.bind p fun j1 H1 h1 vs xs ex S1 r1 p1 hn => ⟨?_, fun t ht => p1.newT S1 r1 ht⟩)⟩
    rw [hn]
    exact Nat.le_trans hl (by decide)
theorem s_lst {C : Cfg} {es : List Ex} {as : List Expr} (h : PA X as (tL G (evL C es) W)) (hl : es.length ≤ 1000) : PE X (.List as pos) (tE G (evE C (.lst es)) W) :=
  (pe_lst h).dimp fun σ H Q ⟨j, s, h, S, L, p⟩ => by
    unfold evE at p
    refine ⟨j, s, h, S, L, PostL.len (n := es.length) (fun _ _ e => evL_len e) (PostL.bind p fun j1 H1 h1 vs xs ex S1 r1 p1 hn => ⟨?_, fun t ht => p1.newL S1 r1 ht⟩)⟩
    rw [hn]
    exact Nat.le_trans hl (by decide)
theorem s_dct0 {C : Cfg} : PE X (.Dict [] [] pos) (tE G (evE C .dct0) W) := pe_dnewK.dimp fun σ H Q ⟨j, s, h, S, L, p⟩ => by
  unfold evE at p
  exact fun t ht => p.newO S ht fun ex e => .inl ⟨[], e, .nil⟩
/-! ### operators -/
theorem s_bin {C : Cfg} {o : Bop} {a b : Ex} {x y : Expr} (hK : G.K = X.K) (ha : PE X x (tE G (evE C a) W)) (hb : PE X y (tE G (evE C b) W)) : PE X (.BinOp x o.py y pos) (tE G (evE C (.bin o a b)) W) :=
  (pe_op (binop_ok hK o) ha hb).dimp fun σ H Q ⟨j, s, h, S, L, p⟩ => by
    unfold evE at p
    exact ⟨j, s, h, S, L, p.bind fun j1 H1 h1 v1 x ex S1 r1 p1 => ⟨j1, s, h1, S1, L.mono ex, p1.bind fun j2 H2 h2 v2 y ex2 S2 r2 p2 => ⟨j2, h2, v1, v2, _, S2, r1.mono ex2, r2, p2⟩⟩⟩
theorem s_neg {C : Cfg} {a : Ex} {x : Expr} (ha : PE X x (tE G (evE C a) W)) : PE X (.UnaryOp .USub x pos) (tE G (evE C (.neg a)) W) :=
  (pe_un (neg_ok (G := G)) ha).dimp fun σ H Q ⟨j, s, h, S, L, p⟩ => by
    unfold evE at p
    exact ⟨j, s, h, S, L, p.bind fun j1 H1 h1 v1 x ex S1 r1 p1 => ⟨j1, h1, v1, _, S1, r1, p1⟩⟩
theorem s_nt {C : Cfg} {a : Ex} {x : Expr} (hK : G.K = X.K) (ha : PE X x (tE G (evE C a) W)) : PE X (.UnaryOp .Not x pos) (tE G (evE C (.nt a)) W) :=
  (pe_notT ha).dimp fun σ H Q ⟨j, s, h, S, L, p⟩ => by
    unfold evE at p
    refine ⟨j, s, h, S, L, p.bind fun j1 H1 h1 v1 x ex S1 r1 p1 => ?_⟩
    split at p1
    · rename_i b e
      exact ⟨b, tru_of hK S1 r1 e, p1.ok S1 (.bl _)⟩
    · exact p1.elim
theorem s_cmp {C : Cfg} {o : Cop} {a b : Ex} {x y : Expr} (hK : G.K = X.K) (hg : C.gl = G.gl) (hu : X.A.units + 64 < cLine) (hm : behindInMarks o.py y = false) (ha : PE X x (tE G (evE C a) W)) (hb : PE X y (tE G (evE C b) W)) :
    PE X (.Compare x [o.py] [y] pos) (tE G (evE C (.cmp o a b)) W) :=
  (pe_cmpR (cmp_ok hK hu o) ha hb hm).dimp fun σ H Q ⟨j, s, h, S, L, p⟩ => by
    unfold evE at p
    refine ⟨j, s, h, S, L, p.bind fun j1 H1 h1 v1 x ex S1 r1 p1 => ⟨j1, s, h1, S1, L.mono ex, p1.bind fun j2 H2 h2 v2 y ex2 S2 r2 p2 => ?_⟩⟩
    rw [hg] at p2
    split at p2
    · rename_i c e
      exact ⟨j2, h2, v1, v2, c, S2, r1.mono ex2, r2, e, fun H' ex3 S3 => p2 _ _ _ ex3 S3 (.bl _)⟩
    · exact p2.elim
theorem s_cmp2 {C : Cfg} {o o' : Cop} {a b c : Ex} {x y z : Expr} (hK : G.K = X.K) (hg : C.gl = G.gl) (hu : X.A.units + 64 < cLine) (ha : PE X x (tE G (evE C a) W)) (hb : PE X y (tE G (evE C b) W)) (hc : PE X z (tE G (evE C c) W))
    (hm : lastMarks [o.py, o'.py] [y, z] = false) :
    PE X (.Compare x [o.py, o'.py] [y, z] pos) (tE G (evE C (.cmp2 o o' a b c)) W) :=
  (pe_chain (cmp_ok hK hu o) (cmp_ok hK hu o') ha hb hc hm).dimp fun σ H Q ⟨j, s, h, S, L, p⟩ => by
    unfold evE at p
    refine ⟨j, s, h, S, L, p.bind fun j1 H1 h1 v1 x ex S1 r1 p1 => ⟨j1, s, h1, S1, L.mono ex, p1.bind fun j2 H2 h2 v2 y ex2 S2 r2 p2 => ?_⟩⟩
    rw [hg] at p2
    split at p2
    · rename_i e
      refine ⟨j2, h2, v1, v2, true, S2, r1.mono ex2, r2, e, fun H3 ex3 S3 => ⟨true, rfl, ?_⟩⟩
      rw [if_pos rfl]
      refine ⟨j2, s, h2, S3, ((L.mono ex).mono ex2).mono ex3, (p2.mono ex3).bind fun j4 H4 h4 v4 z ex4 S4 r4 p4 => ?_⟩
      split at p4
      · rename_i c e
        exact ⟨j4, h4, v2, v4, c, S4, (r2.mono ex3).mono ex4, r4, e, fun H' ex5 S5 => p4 _ _ _ ex5 S5 (.bl _)⟩
      · exact p4.elim
    · rename_i e
      refine ⟨j2, h2, v1, v2, false, S2, r1.mono ex2, r2, e, fun H3 ex3 S3 => ⟨false, rfl, ?_⟩⟩
      rw [if_neg (by decide)]
      exact p2 _ _ _ ex3 S3 (.bl _)
    · exact p2.elim
/-! ### and, or, tests -/
theorem s_an1 {C : Cfg} {a : Ex} {x : Expr} {op : BoolOp} (ha : PE X x (tE G (evE C a) W)) : PE X (.BoolOp op [x] pos) (tE G (evA C [a]) W) := (pe_one ha).dimp fun σ H Q ⟨j, s, h, S, L, p⟩ => by
  unfold evA at p
  exact ⟨j, s, h, S, L, p⟩
theorem s_an {C : Cfg} {a b : Ex} {es : List Ex} {x y : Expr} {as : List Expr} (hK : G.K = X.K) (ha : PE X x (tE G (evE C a) W)) (hb : PE X (.BoolOp .And (y :: as) pos) (tE G (evA C (b :: es)) W)) :
    PE X (.BoolOp .And (x :: y :: as) pos) (tE G (evA C (a :: b :: es)) W) := (pe_andT ha hb).dimp fun σ H Q ⟨j, s, h, S, L, p⟩ => by
  unfold evA at p
  refine ⟨j, s, h, S, L, PostE.bind p fun j1 H1 h1 v1 x ex S1 r1 p1 => ?_⟩
  split at p1
  · rename_i e
    refine ⟨true, tru_of hK S1 r1 e, ?_⟩
    rw [if_pos rfl]
    exact ⟨j1, s, h1, S1, L.mono ex, p1⟩
  · rename_i e
    refine ⟨false, tru_of hK S1 r1 e, ?_⟩
    rw [if_neg (by decide)]
    exact p1.ok S1 r1
  · exact p1.elim
theorem s_or1 {C : Cfg} {a : Ex} {x : Expr} {op : BoolOp} (ha : PE X x (tE G (evE C a) W)) : PE X (.BoolOp op [x] pos) (tE G (evO C [a]) W) := (pe_one ha).dimp fun σ H Q ⟨j, s, h, S, L, p⟩ => by
  unfold evO at p
  exact ⟨j, s, h, S, L, p⟩
theorem s_or {C : Cfg} {a b : Ex} {es : List Ex} {x y : Expr} {as : List Expr} (hK : G.K = X.K) (ha : PE X x (tE G (evE C a) W)) (hb : PE X (.BoolOp .Or (y :: as) pos) (tE G (evO C (b :: es)) W)) :
    PE X (.BoolOp .Or (x :: y :: as) pos) (tE G (evO C (a :: b :: es)) W) := (pe_orT ha hb).dimp fun σ H Q ⟨j, s, h, S, L, p⟩ => by
  unfold evO at p
  refine ⟨j, s, h, S, L, PostE.bind p fun j1 H1 h1 v1 x ex S1 r1 p1 => ?_⟩
  split at p1
  · rename_i e
    refine ⟨false, tru_of hK S1 r1 e, ?_⟩
    rw [if_neg (by decide)]
    exact ⟨j1, s, h1, S1, L.mono ex, p1⟩
  · rename_i e
    refine ⟨true, tru_of hK S1 r1 e, ?_⟩
    rw [if_pos rfl]
    exact p1.ok S1 r1
  · exact p1.elim
/-- the truth of what comes out -/
def tru1 (r : R) : R := r.bind fun v h => match truthy h v with
  | some b => .ok (.bl b) h
  | none => .bad
def tT (G : Gd) (f : Slots → Store → R) (W : WX) : TT := fun σ H Q => tE G (fun s h => tru1 (f s h)) W σ H fun x H' => ∃ b, x = .bl b ∧ Q b H'
theorem t_val {C : Cfg} {a : Ex} {x : Expr} (hK : G.K = X.K) (ha : PE X x (tE G (evE C a) W)) (he : ∀ whole, isTrue x X.env whole = (do let v ← whole; standAt x.pos; holding [v] (PySem.truthy v))) : PT X x (tT G (evE C a) W) :=
  (pt_truth ha he).dimp fun σ H Q ⟨j, s, h, S, L, p⟩ => by
    refine ⟨j, s, h, S, L, PostE.bind p fun j1 H1 h1 v1 x ex S1 r1 p1 => ?_⟩
    split at p1
    · rename_i b e
      obtain ⟨c, e2, q⟩ := p1.ok S1 (.bl b)
      cases e2
      exact ⟨b, tru_of hK S1 r1 e, q⟩
    · exact p1.elim
theorem t_cmp {C : Cfg} {o : Cop} {a b : Ex} {x y : Expr} (hK : G.K = X.K) (hg : C.gl = G.gl) (hu : X.A.units + 64 < cLine) (hm : behindInMarks o.py y = false) (ha : PE X x (tE G (evE C a) W)) (hb : PE X y (tE G (evE C b) W)) :
    PT X (.Compare x [o.py] [y] pos) (tT G (evE C (.cmp o a b)) W) :=
  (pt_cmpR (cmp_ok hK hu o) ha hb hm).dimp fun σ H Q ⟨j, s, h, S, L, p⟩ => by
    unfold evE tru1 at p
    dsimp only at p
    refine ⟨j, s, h, S, L, ?_⟩
    cases q : evE C a s h with
    | bad => rw [q] at p; exact False.elim p
    | exc c fs h1 => rw [q] at p; exact p
    | ok v h1 =>
      rw [q] at p
      refine fun j1 H1 x ex S1 r1 => ⟨j1, s, h1, S1, L.mono ex, ?_⟩
      have p1 := p.mono ex
      dsimp only [R.bind] at p1
      cases q2 : evE C b s h1 with
      | bad => rw [q2] at p1; exact p1.elim
      | exc c fs h1 => rw [q2] at p1; exact p1
      | ok w h2 =>
        rw [q2] at p1
        refine fun j2 H2 y ex2 S2 r2 => ?_
        have p2 := p1.mono ex2
        rw [hg] at p2
        dsimp only at p2
        cases e : cmpo G.gl o h2 v w with
        | none => rw [e] at p2; exact p2.elim
        | some c =>
          rw [e] at p2
          refine ⟨j2, h2, v, w, c, S2, r1.mono ex2, r2, e, fun H' ex3 S3 => ?_⟩
          obtain ⟨b, eb, q⟩ := p2 _ _ _ ex3 S3 (.bl c)
          cases eb
          exact ⟨c, rfl, q⟩
theorem t_not {C : Cfg} {a : Ex} {x : Expr} (ha : PT X x (tT G (evE C a) W)) : PT X (.UnaryOp .Not x pos) (tT G (evE C (.nt a)) W) :=
  (pt_not ha).dimp fun σ H Q ⟨j, s, h, S, L, p⟩ => by
    unfold evE tru1 at p
    dsimp only at p
    refine ⟨j, s, h, S, L, ?_⟩
    unfold tru1
    dsimp only
    cases q : evE C a s h with
    | bad => rw [q] at p; exact False.elim p
    | exc c fs h1 => rw [q] at p; exact p
    | ok v h1 =>
      rw [q] at p
      dsimp only [R.bind] at p ⊢
      cases t : truthy h1 v with
      | none => rw [t] at p; exact p.elim
      | some b =>
        rw [t] at p
        refine fun j1 H1 x ex S1 r1 => ?_
        cases r1.blE
        obtain ⟨c, ec, q⟩ := p _ _ _ ex S1 (.bl (!b))
        cases ec
        exact ⟨b, rfl, q⟩
theorem w_an1 {C : Cfg} {a : Ex} {x : Expr} (ha : PT X x (tT G (evE C a) W)) : PW X (.BoolOp .And [x] pos) (tT G (evA C [a]) W) := by
  have e : (tT G (evA C [a]) W) = tT G (evE C a) W := by
    have : evA C [a] = evE C a := by funext s h; unfold evA; rfl
    rw [this]
  rw [e]
  exact pw_and1 ha
theorem w_or1 {C : Cfg} {a : Ex} {x : Expr} (ha : PT X x (tT G (evE C a) W)) : PW X (.BoolOp .Or [x] pos) (tT G (evO C [a]) W) := by
  have e : (tT G (evO C [a]) W) = tT G (evE C a) W := by
    have : evO C [a] = evE C a := by funext s h; unfold evO; rfl
    rw [this]
  rw [e]
  exact pw_or1 ha
theorem _root_.L2.PW.dimp {e : Expr} {t t' : TT} (h : PW X e t) (i : ∀ σ H Q, t' σ H Q → t σ H Q) : PW X e t' := ⟨fun wh pins s σ H Q I q => h.run wh pins s σ H Q I (i σ H Q q)⟩
theorem w_an {C : Cfg} {a b : Ex} {es : List Ex} {x y : Expr} {as : List Expr} (ha : PT X x (tT G (evE C a) W)) (hb : PW X (.BoolOp .And (y :: as) pos) (tT G (evA C (b :: es)) W)) : PW X (.BoolOp .And (x :: y :: as) pos) (tT G (evA C (a :: b :: es)) W) :=
  (pw_and ha hb).dimp fun σ H Q ⟨j, s, h, S, L, p⟩ => by
    unfold evA tru1 at p
    dsimp only at p
    refine ⟨j, s, h, S, L, ?_⟩
    unfold tru1
    dsimp only
    cases q : evE C a s h with
    | bad => rw [q] at p; exact False.elim p
    | exc c fs h1 => rw [q] at p; exact p
    | ok v h1 =>
      rw [q] at p
      dsimp only [R.bind] at p ⊢
      cases t : truthy h1 v with
      | none => rw [t] at p; exact p.elim
      | some c =>
        rw [t] at p
        refine fun j1 H1 x ex S1 r1 => ⟨c, r1.blE, ?_⟩
        cases c with
        | true =>
          rw [if_pos rfl]
          exact ⟨j1, s, h1, S1, L.mono ex, p.mono ex⟩
        | false =>
          rw [if_neg (by decide)]
          dsimp only [R.bind] at p
          rw [t] at p
          obtain ⟨d, ed, q⟩ := p _ _ _ ex S1 (.bl false)
          cases ed
          exact q
theorem w_or {C : Cfg} {a b : Ex} {es : List Ex} {x y : Expr} {as : List Expr} (ha : PT X x (tT G (evE C a) W)) (hb : PW X (.BoolOp .Or (y :: as) pos) (tT G (evO C (b :: es)) W)) : PW X (.BoolOp .Or (x :: y :: as) pos) (tT G (evO C (a :: b :: es)) W) :=
  (pw_or ha hb).dimp fun σ H Q ⟨j, s, h, S, L, p⟩ => by
    unfold evO tru1 at p
    dsimp only at p
    refine ⟨j, s, h, S, L, ?_⟩
    unfold tru1
    dsimp only
    cases q : evE C a s h with
    | bad => rw [q] at p; exact False.elim p
    | exc c fs h1 => rw [q] at p; exact p
    | ok v h1 =>
      rw [q] at p
      dsimp only [R.bind] at p ⊢
      cases t : truthy h1 v with
      | none => rw [t] at p; exact p.elim
      | some c =>
        rw [t] at p
        refine fun j1 H1 x ex S1 r1 => ⟨c, r1.blE, ?_⟩
        cases c with
        | false =>
          rw [if_neg (by decide)]
          exact ⟨j1, s, h1, S1, L.mono ex, p.mono ex⟩
        | true =>
          rw [if_pos rfl]
          dsimp only [R.bind] at p
          rw [t] at p
          obtain ⟨d, ed, q⟩ := p _ _ _ ex S1 (.bl true)
          cases ed
          exact q
theorem s_ife {C : Cfg} {c a b : Ex} {x y z : Expr} (hc : PT X x (tT G (evE C c) W)) (ha : PE X y (tE G (evE C a) W)) (hb : PE X z (tE G (evE C b) W)) : PE X (.IfExp x y z pos) (tE G (evE C (.ife c a b)) W) :=
  (pe_ifExp hc ha hb).dimp fun σ H Q ⟨j, s, h, S, L, p⟩ => by
    unfold evE at p
    refine ⟨j, s, h, S, L, ?_⟩
    unfold tru1
    dsimp only
    cases q : evE C c s h with
    | bad => rw [q] at p; exact False.elim p
    | exc c fs h1 => rw [q] at p; exact p
    | ok v h1 =>
      rw [q] at p
      dsimp only [R.bind] at p ⊢
      cases t : truthy h1 v with
      | none => rw [t] at p; exact p.elim
      | some d =>
        rw [t] at p
        refine fun j1 H1 x ex S1 r1 => ⟨d, r1.blE, ?_⟩
        cases d with
        | true =>
          rw [if_pos rfl]
          exact ⟨j1, s, h1, S1, L.mono ex, p.mono ex⟩
        | false =>
          rw [if_neg (by decide)]
          exact ⟨j1, s, h1, S1, L.mono ex, p.mono ex⟩
end
end Dl
set_option Elab.async false
set_option linter.all false
set_option maxRecDepth 100000
set_option maxHeartbeats 2000000
/-! Items, slices, fields, calls, as the machine runs them. -/
namespace Dl
open PySem PySem.Spec PyProof.Rows L2
section
variable {X : Cx} {G : Gd} {W : WX} {pos : Pos} {j : List Addr} {H : Hp} {h : Store} {a : Addr} {y : V}
theorem dct_get (S : Sto G j h H) {n : Nat} {l : List (Va × Va)} (e : j[n]? = some a) (q : h[n]? = some (.dct l)) {k v : Va} (f : kFit G.gl l k = true) (rk : RV G j H k y) (g : dget l k = some v) : ∃ w, DGet H a y (some w) ∧ RV G j H v w := by
  have r := S.ob n a _ e q
  unfold kFit at f
  rw [Bool.or_eq_true, Bool.and_eq_true, Bool.and_eq_true] at f
  rcases r with ⟨ks, ha, p⟩ | ⟨ks, ha, p⟩
  · have hk : ∃ k', keyV k = some k' := by
      rcases f with ⟨fk, _⟩ | ⟨fk, fl⟩
      · exact kOk_key fk
      · cases p with
        | nil => cases g
        | @cons p0 q0 _ _ h1 _ =>
          rw [List.all_cons, Bool.and_eq_true] at fl
          obtain ⟨z, hz⟩ := kTup_key fl.1
          obtain ⟨_, z, _, _⟩ := keyT_tup hz
          rw [z] at h1
          exact absurd h1.1 (by intro w; cases w)
    obtain ⟨k', hk⟩ := hk
    have ey := keyV_rel hk rk
    subst ey
    rcases dget_val keyV_inj hk p with ⟨h1, _⟩ | ⟨v', w, h1, h2, h3⟩
    · rw [g] at h1
      cases h1
    · rw [g] at h1
      cases h1
      exact ⟨w, by rw [← h2]; exact DGet.k ha, h3⟩
  · have hk : ∃ k', keyT G.gl k = some k' := by
      rcases f with ⟨fk, fl⟩ | ⟨fk, _⟩
      · cases p with
        | nil => cases g
        | @cons p0 q0 _ _ h1 _ =>
          rw [List.all_cons, Bool.and_eq_true] at fl
          obtain ⟨_, z, _, _⟩ := keyT_tup h1.1
          rw [z] at fl
          exact absurd fl.1 (by simp [kOk])
      · exact kTup_key fk
    obtain ⟨k', hk⟩ := hk
    obtain ⟨b, ey, hb⟩ := keyT_rel hk rk
    subst ey
    rcases dget_val keyT_inj hk p with ⟨h1, _⟩ | ⟨v', w, h1, h2, h3⟩
    · rw [g] at h1
      cases h1
    · rw [g] at h1
      cases h1
      exact ⟨w, by rw [← h2]; exact DGet.t ha hb, h3⟩
theorem s_ix {C : Cfg} {a b : Ex} {x y : Expr} (hK : G.K = X.K) (hg : C.gl = G.gl) (hu : X.A.units + 1 < cLine) (hs : PlainIx y) (ha : PE X x (tE G (evE C a) W)) (hb : PE X y (tE G (evE C b) W)) : PE X (.Subscript x y pos) (tE G (evE C (.ix a b)) W) :=
  (PE.dor (pe_ix (ix_ok hK) ha hb hs) (pe_dget hu ha hb hs)).dimp fun σ H Q ⟨j, s, h, S, L, p⟩ => by
    unfold evE at p
    have fst : ∀ {Q1 : VK}, (∀ j1 H1 h1 v1 x, Ext j H j1 H1 → Sto G j1 h1 H1 → RV G j1 H1 v1 x → evE C a s h = .ok v1 h1 → PostE G j1 H1 ((evE C b s h1).bind fun y h => match item C.gl h v1 y with | some v => .ok v h | none => .bad) Q (fun c d H' => W c d σ H') → Q1 x H1) →
        PostE G j H (evE C a s h) Q1 fun c d H' => W c d σ H' := fun {Q1} k => by
      cases q : evE C a s h with
      | bad => rw [q] at p; exact False.elim p
      | exc c fs h1 => rw [q] at p; exact p
      | ok v h1 =>
        rw [q] at p
        exact fun j1 H1 x ex S1 r1 => k j1 H1 h1 v x ex S1 r1 q (p.mono ex)
    -- which rule: by what comes out
    by_cases dc : ∃ n h1 w h2 l, evE C a s h = .ok (.ref n) h1 ∧ evE C b s h1 = .ok w h2 ∧ h2[n]? = some (.dct l)
    · refine .inr ⟨j, s, h, S, L, fst fun j1 H1 h1 v1 x ex S1 r1 q p1 => ⟨j1, s, h1, S1, L.mono ex, ?_⟩⟩
      obtain ⟨n, h1', w, h2, l, e1, e2, e3⟩ := dc
      rw [q] at e1
      cases e1
      rw [e2] at p1 ⊢
      refine fun j2 H2 y ex2 S2 r2 => ?_
      have p2 := p1.mono ex2
      obtain ⟨a, rfl, ea⟩ := (r1.mono ex2).refA
      rw [hg] at p2
      dsimp only [R.bind] at p2
      cases e : item G.gl h2 (.ref n) w with
      | none => rw [e] at p2; exact False.elim p2
      | some v =>
        rw [e] at p2
        unfold item at e
        dsimp only at e
        rw [e3] at e
        dsimp only at e
        by_cases f : kFit G.gl l w = true
        · rw [if_pos f] at e
          obtain ⟨z, g, rz⟩ := dct_get S2 ea e3 f r2 e
          exact ⟨a, z, rfl, g, p2.ok S2 rz⟩
        · rw [if_neg f] at e
          cases e
    · refine .inl ⟨j, s, h, S, L, fst fun j1 H1 h1 v1 x ex S1 r1 q p1 => ⟨j1, s, h1, S1, L.mono ex, ?_⟩⟩
      cases q2 : evE C b s h1 with
      | bad => rw [q2] at p1; exact False.elim p1
      | exc c fs h2 => rw [q2] at p1; exact p1
      | ok w h2 =>
        rw [q2] at p1
        refine fun j2 H2 y ex2 S2 r2 => ?_
        have p2 := p1.mono ex2
        rw [hg] at p2
        dsimp only [R.bind] at p2
        cases e : item G.gl h2 v1 w with
        | none => rw [e] at p2; exact False.elim p2
        | some v =>
          rw [e] at p2
          refine ⟨j2, h2, v1, w, v, S2, r1.mono ex2, r2, fun n l en el => dc ⟨n, h1, w, h2, l, by rw [q, en], q2, el⟩, e, fun z rz => p2.ok S2 rz⟩
/-- a part of a slice -/
def tP (G : Gd) (C : Cfg) (o : Option Ex) (W : WX) : L2.St → Hp → (Option Int → Hp → Prop) → Prop := fun σ H Q => ∃ j s h, Sto G j h H ∧ Slo G j H s σ ∧
  match o with
  | none => Q none H
  | some e => PostE G j H (evE C e s h) (fun x H' => ∃ i, x = .int i ∧ Q (some i) H') fun c d H' => W c d σ H'
theorem s_pn {C : Cfg} : PO X none (tP G C none W) := ⟨fun pins s σ H Q I ⟨j, s1, h, S, L, p⟩ => po_none.run pins s σ H Q I p⟩
theorem s_ps {C : Cfg} {e : Ex} {x : Expr} (he : PE X x (tE G (evE C e) W)) : PO X (some x) (tP G C (some e) W) := ⟨fun pins s σ H Q I ⟨j, s1, h, S, L, p⟩ => (po_some he).run pins s σ H Q I ⟨j, s1, h, S, L, p⟩⟩
theorem evP_post {C : Cfg} {o : Option Ex} {s : Slots} {f : Option Int → Store → R} {Q : VK} {σ : L2.St} (S : Sto G j h H) (L : Slo G j H s σ) {Q1 : Option Int → Hp → Prop} (p : PostE G j H (evP C o s h f) Q fun c d H' => W c d σ H')
    (k : ∀ j1 H1 h1 i, Ext j H j1 H1 → Sto G j1 h1 H1 → PostE G j1 H1 (f i h1) Q (fun c d H' => W c d σ H') → Q1 i H1) : tP G C o W σ H Q1 := by
  refine ⟨j, s, h, S, L, ?_⟩
  cases o with
  | none =>
    unfold evP at p
    exact k j H h none .refl S p
  | some e =>
    unfold evP at p
    refine PostE.bind p fun j1 H1 h1 v1 x ex S1 r1 p1 => ?_
    split at p1
    · exact ⟨_, r1.intE, k j1 H1 h1 _ ex S1 p1⟩
    · exact False.elim p1
theorem s_sl {C : Cfg} {a : Ex} {lo hi : Option Ex} {x : Expr} {l u : Option Expr} {p2 : Pos} (hK : G.K = X.K) (ha : PE X x (tE G (evE C a) W)) (hl : PO X l (tP G C lo W)) (hh : PO X u (tP G C hi W)) :
    PE X (.Subscript x (.Slice l u none p2) pos) (tE G (evE C (.sl a lo hi)) W) :=
  (pe_slice (sl_ok hK) ha hl hh).dimp fun σ H Q ⟨j, s, h, S, L, p⟩ => by
    unfold evE at p
    exact ⟨j, s, h, S, L, PostE.bind p fun j1 H1 h1 v1 x ex S1 r1 p1 => evP_post S1 (L.mono ex) p1 fun j2 H2 h2 i ex2 S2 p3 => evP_post S2 ((L.mono ex).mono ex2) p3 fun j3 H3 h3 k ex3 S3 p4 => ⟨j3, h3, v1, _, S3, (r1.mono ex2).mono ex3, p4⟩⟩
/-- a field -/
theorem fld_look {c : Nat} {l : List (Nat × Va)} {ws : List (Str × V)} {C : Addr} {f : Nat} {n : Str} {v : Va} (nd : G.fld.Nodup) (hn : G.fld[f]? = some n) (p : Paired (fun p q => (G.fld[p.1]? = some q.1 ∧ L2.Cls G.K C ∧ NoAttr G.K C q.1) ∧ RV G j H p.2 q.2) l ws) (e : lkF f l = some v) :
    ∃ w, ws.lookup n = some w ∧ RV G j H v w ∧ L2.Cls G.K C ∧ NoAttr G.K C n := by
  induction p with
  | nil => cases e
  | @cons a b l ws h1 h2 ih =>
    unfold lkF at e
    by_cases ea : a.1 = f
    · rw [List.find?_cons, show (a.1 == f) = true from beq_iff_eq.mpr ea] at e
      have e2 : b.1 = n := by
        have := h1.1.1
        rw [ea, hn] at this
        exact (Option.some.inj this).symm
      cases e
      obtain ⟨b1, b2⟩ := b
      subst e2
      exact ⟨b2, by simp [List.lookup], h1.2, h1.1.2⟩
    · rw [List.find?_cons, show (a.1 == f) = false from beq_eq_false_iff_ne.mpr ea] at e
      obtain ⟨w, h3, h4⟩ := ih e
      refine ⟨w, ?_, h4⟩
      have ne : ¬ n = b.1 := fun z => by
        have := h1.1.1
        rw [← z] at this
        exact ea ((List.getElem_inj nd).mp ((List.getElem?_eq_some_iff.mp this).2.trans (List.getElem?_eq_some_iff.mp hn).2.symm))
      obtain ⟨b1, b2⟩ := b
      rw [List.lookup, show (n == b1) = false from beq_eq_false_iff_ne.mpr ne]
      exact h3
theorem s_fld {C : Cfg} {o : Ex} {f : Nat} {n : Str} {x : Expr} (hK : G.K = X.K) (nd : G.fld.Nodup) (hn : G.fld[f]? = some n) (hh : C.hd = none) (hb : attributeBase x n X.env (eval x X.env) = eval x X.env) (ho : PE X x (tE G (evE C o) W)) : PE X (.Attribute x n pos) (tE G (evE C (.fld o f)) W) :=
  (pe_fld ho hb).dimp fun σ H Q ⟨j, s, h, S, L, p⟩ => by
    unfold evE at p
    refine ⟨j, s, h, S, L, PostE.bind p fun j1 H1 h1 v1 x ex S1 r1 p1 => ?_⟩
    rw [hh] at p1
    split at p1
    · rename_i m
      obtain ⟨a, rfl, ea⟩ := r1.refA
      split at p1
      · rename_i c fs hm
        obtain ⟨C', dx, fs', c1, c2, c3⟩ := S1.ob m a _ ea hm
        split at p1
        · rename_i v hv
          obtain ⟨w, w1, w2, w3, w4⟩ := fld_look (c := c) nd hn c3 hv
          exact ⟨a, C', dx, fs', w, rfl, c2, hK ▸ w3, hK ▸ w4, w1, p1.ok S1 w2⟩
        · exact False.elim p1
      · exact False.elim p1
    · exact False.elim p1
    · exact False.elim p1
/-! ### built-in functions and methods -/
theorem s_bi {C : Cfg} {b : Bi} {es : List Ex} {x : Expr} {as : List Expr} {n : Str} {p : Pos} (hK : G.K = X.K) (hg : C.gl = G.gl) (hc : X.calm = true) (hu : X.A.units + 64 < cLine) (nb : ∀ t, b ≠ .isi t) (hn : n = b.nm) (hgl : Gl X n) (hm : X.mg n = none)
    (ha : PA X (x :: as) (tL G (evL C es) W)) (hs : starEach (x :: as) X.env = (false, eval x X.env) :: starEach as X.env) (hpl : (backTo pos (starEach as X.env)).any (·.1) = false) : PE X (.Call (.Name n p) (x :: as) [] pos) (tE G (evE C (.bi b es)) W) := by
  subst hn
  have R := bfn_ok hK hc hu b nb
  have fin : ∀ (σ : L2.St) (H : Hp) (Q : VK), tE G (evE C (.bi b es)) W σ H Q → tCB (VL G fun h vs => bfn G.gl b h vs) (tL G (evL C es) W) σ H Q := fun σ H Q ⟨j, s, h, S, L, p⟩ => by
    unfold evE at p
    rw [hg] at p
    exact ⟨j, s, h, S, L, PostL.bind p fun j1 H1 h1 vs xs ex S1 r1 p1 => ⟨j1, h1, vs, _, S1, r1, p1⟩⟩
  cases b with
  | len => exact (pe_callB R hgl hm (by decide +kernel) ha (by decide) (by decide) hs hpl).dimp fin
  | abs => exact (pe_callB R hgl hm (by decide +kernel) ha (by decide) (by decide) hs hpl).dimp fin
  | min => exact (pe_callB R hgl hm (by decide +kernel) ha (by decide) (by decide) hs hpl).dimp fin
  | max => exact (pe_callB R hgl hm (by decide +kernel) ha (by decide) (by decide) hs hpl).dimp fin
  | sum => exact (pe_callB R hgl hm (by decide +kernel) ha (by decide) (by decide) hs hpl).dimp fin
  | sorted => exact (pe_callB R hgl hm (by decide +kernel) ha (by decide) (by decide) hs hpl).dimp fin
  | list => exact (pe_callTy R hgl hm (by decide +kernel) ha (by decide) (by decide) hs hpl).dimp fin
  | dict => exact (pe_callTy R hgl hm (by decide +kernel) ha (by decide) (by decide) hs hpl).dimp fin
  | tuple => exact (pe_callTy R hgl hm (by decide +kernel) ha (by decide) (by decide) hs hpl).dimp fin
  | int => exact (pe_callTy R hgl hm (by decide +kernel) ha (by decide) (by decide) hs hpl).dimp fin
  | str => exact (pe_callTy R hgl hm (by decide +kernel) ha (by decide) (by decide) hs hpl).dimp fin
  | divmod => exact (pe_callB R hgl hm (by decide +kernel) ha (by decide) (by decide) hs hpl).dimp fin
  | isi t => exact absurd rfl (nb t)
theorem s_isi {C : Cfg} {t : Tyk} {e : Ex} {x : Expr} {p q : Pos} (hK : G.K = X.K) (hgl : Gl X "isinstance") (hm : X.mg "isinstance" = none) (hgt : Gl X t.ns) (hmt : X.mg t.ns = none) (he : PE X x (tE G (evE C e) W))
    (hs : starEach [x, .Name t.ns q] X.env = (false, eval x X.env) :: starEach [.Name t.ns q] X.env) : PE X (.Call (.Name "isinstance" p) [x, .Name t.ns q] [] pos) (tE G (evE C (.bi (.isi t) [e])) W) := by
  have ht : PE X (.Name t.ns q) (tC (.ty t.nm)) := by
    cases t <;> exact pe_bltn hgt hmt (by decide +kernel) rfl (by decide) (by decide)
  refine (pe_callB (isi_ok hK t) hgl hm (by decide +kernel) (pa_cons he (pa_cons ht pa_nil) hs) (by decide) (by decide) hs rfl).dimp fun σ H Q ⟨j, s, h, S, L, p⟩ => ?_
  unfold evE evL evL at p
  refine ⟨j, s, h, S, L, ?_⟩
  cases q : evE C e s h with
  | bad => rw [q] at p; exact False.elim p
  | exc c fs h1 => rw [q] at p; exact p
  | ok v h1 =>
    rw [q] at p
    refine fun j1 H1 x ex S1 r1 => ?_
    have p1 := p.mono ex
    dsimp only [R.bindl, Rl.bind, bfn] at p1
    cases e : isTy h1 t v with
    | none => rw [e] at p1; exact False.elim p1
    | some b =>
      rw [e] at p1
      exact ⟨j1, h1, v, x, b, rfl, S1, r1, e, p1.ok S1 (.bl b)⟩
end
end Dl
set_option Elab.async false
set_option linter.all false
set_option maxRecDepth 100000
set_option maxHeartbeats 2000000
/-! Calls of the program's own defs, methods and classes. -/
namespace Dl
open PySem PySem.Spec PyProof.Rows L2
section
variable {X : Cx} {W : WX} {D : Dt} {k : Nat} {pos : Pos} {σ : L2.St} {H : Hp} {s : Shared} {pins : List (Addr × Obj)}
theorem RVs.V1 {G : Gd} {j : List Addr} {H : Hp} {l : List Va} {xs : List V} (r : RVs G j H l xs) : xs.length = l.length := r.length.symm
/-- a def is run: by what the interpreter gives -/
theorem call_run (c : Cn D X k W) {f : Nat} {d : Fn} (hd : D.P.fns[f]? = some d) (I : L2.Inv X pins σ H s) {vs : List V} {us : List Value} (r : Vals vs us) {Q : VK} {j : List Addr} {h : Store} {args : List Va}
    (S : Sto (D.G X.K none) j h H) (ra : RVs (D.G X.K none) j H args vs) (p : PostE (D.G X.K none) j H (run D.P k f args h) Q fun c d H' => W c d σ H') : wpAny (model X.prog X.w) X.A (call (.ref (D.FA f)) us) (EP X pins σ Q) X.xe s := by
  obtain ⟨hb, hn, hv⟩ := c.fx.bd f d hd
  have hl : args.length = (D.ps f).length := by
    cases k with
    | zero =>
      unfold run at p
      exact False.elim p
    | succ k =>
      unfold run at p
      rw [hd] at p
      dsimp only at p
      split at p
      · rename_i hh
        rw [hv] at hh
        simp at hh
        omega
      · exact False.elim p
  refine run_fnS (c.fx.ok f d hd) (c.rm.mono (by omega)) hb (passAt c.tk σ) I r ⟨by rw [ra.V1]; exact hl, j, args, h, S, ra, p⟩
theorem s_call {f : Nat} {n : Str} {d : Fn} {es : List Ex} {x : Expr} {as : List Expr} {p : Pos} (c : Cn D X k W) (hd : D.P.fns[f]? = some d) (hm : X.mg n = some (.ref (D.FA f))) (hk : PySem.W.keepIn X.K (.ref (D.FA f)) = true) (hg : Gl X n) (hdb : (n == ("__debug__" : Str)) = false)
    (ha : PA X (x :: as) (tL (D.G X.K none) (evL (D.cfg k) es) W)) (hs : starEach (x :: as) X.env = (false, eval x X.env) :: starEach as X.env) (hpl : (backTo pos (starEach as X.env)).any (·.1) = false) :
    PE X (.Call (.Name n p) (x :: as) [] pos) (tE (D.G X.K none) (evE (D.cfg k) (.call f es)) W) := by
  refine ⟨fun pins s σ H Q I ⟨j, sl, h, S, L, q⟩ => ?_⟩
  unfold evE at q
  refine wpAny_Call_Name_kw (ld_glob I hg hm ?_ hdb)
  refine PySem.W.callWith_K (h₀ := X.base) I.ok.mod.kin hk (thn (ha.run pos pins s σ H _ I ⟨j, sl, h, S, L, PostL.bind q fun j1 H1 h1 vs xs ex S1 r1 q1 => (show ∃ j h args, Sto (D.G X.K none) j h H1 ∧ RVs (D.G X.K none) j H1 args xs ∧ PostE (D.G X.K none) j H1 (run D.P k f args h) Q (fun c d H' => W c d σ H') from ⟨j1, h1, vs, S1, r1, q1⟩)⟩) fun us s1 ⟨vs, H1, I1, r, j1, h1, args, S1, ra, q1⟩ => ⟨I1.kIn, ?_⟩) hs hpl
  exact call_run c hd I1 r S1 ra q1
/-- o.m(..) -/
theorem s_meth {m : Nat} {n : Str} {o : Ex} {es : List Ex} {x : Expr} {as : List Expr} {ap : Pos} {pl : Sem Bool} (c : Cn D X k W) (hn : D.M.mth[m]? = some n) (ho : PE X x (tE (D.G X.K none) (evE (D.cfg k) o) W)) (ha : PA X as (tL (D.G X.K none) (evL (D.cfg k) es) W))
    (h0 : as = [] → es = []) (hs : ∀ a r, as = a :: r → starEach as X.env = (false, eval a X.env) :: starEach r X.env ∧ (backTo pos (starEach r X.env)).any (·.1) = false)
    (he : eval (.Call (.Attribute x n ap) as [] pos) X.env = (do
      let v ← eval x X.env
      standAt ap.atName
      let (g, fst) ← holding [v] (getMethod v n pl)
      callWith pos g fst (backTo pos (starEach as X.env)) (backToKw pos (keywordEach [] X.env)))) :
    PE X (.Call (.Attribute x n ap) as [] pos) (tE (D.G X.K none) (evE (D.cfg k) (.meth m o es)) W) := by
  refine ⟨fun pins s σ H Q I ⟨j, sl, h, S, L, q⟩ => ?_⟩
  unfold evE at q
  refine PySem.W.methodCall_KW (pl := pl) (thn (ho.run pins s σ H (fun x1 H1 => ∃ j1 h1 a c dx fs fs' C f d, x1 = .ref a ∧ Sto (D.G X.K none) j1 h1 H1 ∧ Slo (D.G X.K none) j1 H1 sl σ ∧ (∃ nn, j1[nn]? = some a ∧ PostE (D.G X.K none) j1 H1 ((evL (D.cfg k) es sl h1).bind fun vs h => run D.P k f (.ref nn :: vs) h) Q (fun c d H' => W c d σ H')) ∧
    H1 a = some (.ins C dx fs') ∧ D.CV c = .ref C ∧ D.P.cls[c]? = some d ∧ d.meths.lookup m = some f ∧ Paired (fun (p : Nat × Va) (q : Str × V) => ((D.G X.K none).fld[p.1]? = some q.1 ∧ L2.Cls (D.G X.K none).K C ∧ NoAttr (D.G X.K none).K C q.1) ∧ RV (D.G X.K none) j1 H1 p.2 q.2) fs fs') I
    ⟨j, sl, h, S, L, PostE.bind q fun j1 H1 h1 v1 x1 ex S1 r1 q1 => ?_⟩) fun u s1 ⟨x1, H1, I1, rx, j1, h1, a, c', dx, fs, fs', C, f, d, ex, S1, L1, ⟨nn, en, q1⟩, ea, ec, ed, em, pf⟩ => ?_) he
  · split at q1
    · rename_i nn
      obtain ⟨a, rfl, ea⟩ := r1.refA
      split at q1
      · rename_i c fs hm
        obtain ⟨C, dx, fs', c1, c2, c3⟩ := S1.ob nn a _ ea hm
        split at q1
        · rename_i d hd
          split at q1
          · rename_i f hf
            exact ⟨j1, h1, a, c, dx, fs, fs', C, f, d, rfl, S1, L.mono ex, ⟨nn, ea, q1⟩, c2, c1, hd, hf, c3⟩
          · exact False.elim q1
        · exact False.elim q1
      · exact False.elim q1
    · exact False.elim q1
  · subst ex
    obtain rfl : u = Value.ref a := rx
    obtain ⟨C', e1, hC, hM, df, hdf⟩ := c.fx.me c' d m f n ed em hn
    rw [ec] at e1
    cases e1
    have nol : fs'.lookup n = none := by
      have nf := c.fx.mf n (List.mem_of_getElem? hn)
      have all : ∀ {l : List (Nat × Va)} {ws : List (Str × V)}, Paired (fun (p : Nat × Va) (q : Str × V) => ((D.G X.K none).fld[p.1]? = some q.1 ∧ L2.Cls (D.G X.K none).K C ∧ NoAttr (D.G X.K none).K C q.1) ∧ RV (D.G X.K none) j1 H1 p.2 q.2) l ws → ws.lookup n = none := fun p => by
        induction p with
        | nil => rfl
        | @cons a b l ws h1 h2 ih =>
          obtain ⟨b1, b2⟩ := b
          rw [List.lookup, show (n == b1) = false from beq_eq_false_iff_ne.mpr fun z => nf (z ▸ List.mem_of_getElem? h1.1.1)]
          exact ih
      exact all pf
    refine getmeth_ok I1 ea hC hM nol ?_
    cases as with
    | nil =>
      obtain rfl := h0 rfl
      refine PySem.W.callWith_K0 (first := [.ref a]) I1.kIn hM.kp ?_
      unfold evL at q1
      exact call_run (us := [.ref a]) (vs := [.ref a]) c hdf I1 (.cons rfl .nil) S1 (.cons (.ref en) .nil) q1
    | cons a0 r =>
      obtain ⟨h2, h3⟩ := hs a0 r rfl
      refine PySem.W.callWith_K (first := [.ref a]) (h₀ := X.base) I.ok.mod.kin hM.kp (thn (ha.run pos pins s1 σ H1 _ I1 ⟨j1, sl, h1, S1, L1, PostL.bind q1 fun j2 H2 h2 vs xs ex S2 r2 q2 => (show ∃ j h args, Sto (D.G X.K none) j h H2 ∧ RVs (D.G X.K none) j H2 args (.ref a :: xs) ∧ PostE (D.G X.K none) j H2 (run D.P k f args h) Q (fun c d H' => W c d σ H') from ⟨j2, h2, _, S2, .cons (.ref (pre_get ex.pre en)) r2, q2⟩)⟩) fun us s2 ⟨vs, H2, I2, r, j2, h2, args, S2, ra, q2⟩ => ⟨I2.kIn, ?_⟩) h2 h3
      exact call_run (us := .ref a :: us) (vs := .ref a :: vs) c hdf I2 (.cons rfl r) S2 ra q2
/-- an object made -/
theorem run_makeS {C f : Addr} {fd : FuncData} {ps : List Str} {k : Nat} {sp : Sp} {CX : CXT} {E : L2.St → XK} {Q : VK} {us : List Value} {vs : List V} (M : Mk X.K C f) (F : FnOk X.prog X.w X.K X.mg X.base CX k f fd ps sp) (hr : Room (k + 1) X.A) (hb : Binds X.K fd ps []) (hx : PassesAt CX X σ (E σ))
    (I : L2.Inv X pins σ H s) (r : Vals vs us)
    (h : ∀ x dx, H x = none → H dx = none → dx ≠ x → sp (.ref x :: vs) (upd (upd H dx (.own x)) x (.ins C dx [])) (fun v H2 => v = .non ∧ Q (.ref x) H2) (E σ)) :
    wpAny (model X.prog X.w) X.A (call (.ref C) us) (EP X pins σ Q) X.xe s := by
  have hq := h (s.heap.objs.size + 1) s.heap.objs.size (I.hok.fresh (Nat.le_succ _)) (I.hok.fresh (Nat.le_refl _)) (Nat.ne_of_lt (Nat.lt_succ_self _))
  have I2 := Inv.made (C := C) I
  have r2 : Vals (V.ref (s.heap.objs.size + 1) :: vs) (Value.ref (s.heap.objs.size + 1) :: us) := .cons rfl r
  have hl : (Value.ref (s.heap.objs.size + 1) :: us).length = ps.length := by
    have e := r2.length
    rw [F.len _ _ _ _ hq] at e
    exact e.symm
  have b := hb _ (Value.ref (s.heap.objs.size + 1) :: us) I2.kIn (by rw [List.append_nil]; exact hl)
  rw [List.append_nil] at b
  refine wpAny_call (make_map (f := f) I.kIn M.makes M.init (beq_iff_eq.mp M.fn) (codeAny_mono (F.run _ X.stack _ _ ⟨Value.ref (s.heap.objs.size + 1) :: us, []⟩ (Value.ref (s.heap.objs.size + 1) :: us) _ _ (E σ) (hr.make C us [])
    (I2.env0.make C us []) b r2 hq) fun r s' hq' => ?_))
  cases r with
  | error e => exact hx pins _ _ e s' I2 hq'
  | ok fl =>
    cases fl with
    | ret u =>
      obtain ⟨v, H', I3, rv, ev, q3⟩ := I2.after hq'
      subst ev
      exact ⟨rv, ⟨V.ref (s.heap.objs.size + 1), H', I3, rfl, q3⟩⟩
    | next => exact False.elim hq'
    | brk => exact False.elim hq'
    | cont => exact False.elim hq'
theorem mk_run (c : Cn D X k W) {cn f : Nat} {cl : Cls} {C : Addr} {Q : VK} {us : List Value} {vs : List V} {j : List Addr} {h : Store} {args : List Va} {d : Fn} (hd : D.P.fns[f]? = some d) (hC : D.CV cn = .ref C) (M : Mk X.K C (D.FA f)) (I : L2.Inv X pins σ H s) (r : Vals vs us) (S : Sto (D.G X.K none) j h H) (ra : RVs (D.G X.K none) j H args vs)
    (p : PostE (D.G X.K none) j H ((run D.P k f (.ref h.length :: args) (h ++ [.ins cn []])).bind fun v h' => if v = .non then .ok (.ref h.length) h' else .bad) Q fun c d H' => W c d σ H') :
    wpAny (model X.prog X.w) X.A (call (.ref C) us) (EP X pins σ Q) X.xe s := by
  obtain ⟨hb, hn, hv⟩ := c.fx.bd f d hd
  have hl : (Va.ref h.length :: args).length = (D.ps f).length := by
    cases k with
    | zero =>
      unfold run at p
      exact False.elim p
    | succ k =>
      unfold run at p
      rw [hd] at p
      dsimp only at p
      split at p
      · rename_i hh
        rw [hv] at hh
        simp only [List.length_nil, Nat.add_zero] at hh
        omega
      · exact False.elim p
  refine run_makeS M (c.fx.ok f d hd) (c.rm.mono (by omega)) hb (passAt c.tk σ) I r fun x dx hx hdx ne => ?_
  have e1 := Ext.laid (j := j) dx (.own x) hdx
  have S1 := S.laid (u := .own x) hdx
  have hx1 : upd H dx (.own x) x = none := by rw [upd_ne (Ne.symm ne)]; exact hx
  have e2 := Ext.new (j := j) (u := .ins C dx []) hx1
  have S2 := S1.new (u := .ins C dx []) (o := .ins cn []) hx1 ⟨C, dx, [], hC, upd_same, .nil⟩
  have en : (j ++ [x])[h.length]? = some x := by rw [← S.len]; simp
  refine ⟨by rw [← hl, List.length_cons, List.length_cons, ra.V1], j ++ [x], _, _, S2, .cons (.ref en) (ra.mono (e1.trans e2)), PostE.bind (p.mono (e1.trans e2)) fun j1 H1 h1 v1 y ex S1 r1 p1 => ?_⟩
  by_cases hv : v1 = .non
  · subst hv
    rw [if_pos rfl] at p1
    exact ⟨by cases r1; rfl, p1.ok S1 (.ref (pre_get ex.pre en))⟩
  · rw [if_neg hv] at p1
    exact False.elim p1
theorem s_mk {cn : Nat} {n : Str} {cl : Cls} {f : Nat} {es : List Ex} {as : List Expr} {p : Pos} {C : Addr} {d : Fn} (c : Cn D X k W) (hcl : D.P.cls[cn]? = some cl) (hi : cl.init = some f) (hd : D.P.fns[f]? = some d) (hC : D.CV cn = .ref C) (M : Mk X.K C (D.FA f)) (hm : X.mg n = some (.ref C)) (hg : Gl X n) (hdb : (n == ("__debug__" : Str)) = false)
    (ha : PA X as (tL (D.G X.K none) (evL (D.cfg k) es) W)) (h0 : as = [] → es = [])
    (hs : ∀ a r, as = a :: r → starEach as X.env = (false, eval a X.env) :: starEach r X.env ∧ (backTo pos (starEach r X.env)).any (·.1) = false) :
    PE X (.Call (.Name n p) as [] pos) (tE (D.G X.K none) (evE (D.cfg k) (.mk cn es)) W) := by
  refine ⟨fun pins s σ H Q I ⟨j, sl, h, S, L, q⟩ => ?_⟩
  unfold evE at q
  rw [show (D.cfg k).cls[cn]? = some cl from hcl] at q
  dsimp only at q
  rw [hi] at q
  dsimp only at q
  refine wpAny_Call_Name_kw (ld_glob I hg hm ?_ hdb)
  cases as with
  | nil =>
    obtain rfl := h0 rfl
    unfold evL at q
    exact PySem.W.callWith_K0 I.kIn M.kp (mk_run (us := []) (vs := []) c (cl := cl) hd hC M I .nil S .nil q)
  | cons a r =>
    obtain ⟨h2, h3⟩ := hs a r rfl
    refine PySem.W.callWith_K (h₀ := X.base) I.ok.mod.kin M.kp (thn (ha.run pos pins s σ H _ I ⟨j, sl, h, S, L, PostL.bind q fun j1 H1 h1 vs xs ex S1 r1 q1 => (show ∃ j h args, Sto (D.G X.K none) j h H1 ∧ RVs (D.G X.K none) j H1 args xs ∧ PostE (D.G X.K none) j H1 ((run D.P k f (.ref h.length :: args) (h ++ [.ins cn []])).bind fun v h' => if v = .non then .ok (.ref h.length) h' else .bad) Q (fun c d H' => W c d σ H') from ⟨j1, h1, vs, S1, r1, q1⟩)⟩) fun us s1 ⟨vs, H1, I1, r, j1, h1, args, S1, ra, q1⟩ => ⟨I1.kIn, ?_⟩) h2 h3
    exact mk_run c (cl := cl) hd hC M I1 r S1 ra q1
end
end Dl
set_option Elab.async false
set_option linter.all false
set_option maxRecDepth 100000
set_option maxHeartbeats 2000000
/-! Targets, what is gone over, list comprehensions. -/
namespace Dl
open PySem PySem.Spec PyProof.Rows L2
/-- the scope that code is checked by says of each name what the scope that runs says -/
structure Ag (X : Cx) (sc : Scope) : Prop where
  vis : ∀ x, vis sc x = true → Vis X.env.scope x
  loc : ∀ x, loc sc x = true → Loc X.env.scope x ∧ (X.fn x = true ∨ X.env.scope.names.lookup x = some .local)
  locl : ∀ x, locl sc x = true → X.env.scope.names.lookup x = some .local
  gli : ∀ x, gli sc x = true → Gl X x
  cap : ∀ x, sc.names.lookup x = some .cell ∨ sc.names.lookup x = some .free → X.env.scope.names.lookup x = some .cell ∨ X.env.scope.names.lookup x = some .free
theorem vis_iff {sc : Scope} {x : Str} : vis sc x = true ↔ (sc.names.lookup x = some .local ∨ sc.names.lookup x = some .cell ∨ sc.names.lookup x = some .free) := by
  unfold vis
  split <;> simp_all
theorem loc_iff {sc : Scope} {x : Str} : loc sc x = true ↔ (sc.names.lookup x = some .local ∨ sc.names.lookup x = some .cell) := by
  unfold loc
  split <;> simp_all
theorem locl_iff {sc : Scope} {x : Str} : locl sc x = true ↔ sc.names.lookup x = some .local := by
  unfold locl
  split <;> simp_all
theorem gli_iff {sc : Scope} {x : Str} : gli sc x = true ↔ sc.names.lookup x = some .globalImplicit := by
  unfold gli
  split <;> simp_all
theorem lookup_relS_free {sc : Scope} : ∀ {names : List (Str × NameKind)} {x : Str}, names.lookup x = some .free →
    (names.map fun (n, k) => if (k == NameKind.free && sc.kind == .function && sc.names.lookup n == some .cell) then (n, NameKind.cell) else (n, k)).lookup x = some .free ∨
    (names.map fun (n, k) => if (k == NameKind.free && sc.kind == .function && sc.names.lookup n == some .cell) then (n, NameKind.cell) else (n, k)).lookup x = some .cell
  | [], _, h => by simp at h
  | (n, k₀) :: r, x, h => by
    have ih := @lookup_relS_free sc r x
    rw [List.map_cons]
    cases hx : x == n with
    | true =>
      simp only [List.lookup_cons, hx] at h
      cases h
      dsimp only
      split
      · simp only [List.lookup_cons, hx]; simp
      · simp only [List.lookup_cons, hx]; simp
    | false =>
      simp only [List.lookup_cons, hx] at h
      dsimp only
      split
      · simp only [List.lookup_cons, hx]; exact ih h
      · simp only [List.lookup_cons, hx]; exact ih h
section
variable {X : Cx} {G : Gd} {W : WX} {j : List Addr} {H : Hp} {h : Store}
theorem ag_blk {s : Shared} {scope : Scope} {cl : List (Str × Addr)} {C : Addr} {fp : List Addr} : Ag (X.blk s H scope (compEnvC scope cl C X.env) fp) scope where
  vis x e := by
    rcases vis_iff.mp e with e | e | e
    · exact .inl (lookup_relS_keep (by simp) e)
    · exact .inr (.inl (lookup_relS_keep (by simp) e))
    · exact (lookup_relS_free e).elim (fun z => .inr (.inr z)) fun z => .inr (.inl z)
  loc x e := by
    rcases loc_iff.mp e with e | e
    · exact ⟨.inl (lookup_relS_keep (by simp) e), .inr (lookup_relS_keep (by simp) e)⟩
    · exact ⟨.inr (lookup_relS_keep (by simp) e), .inl (by show (scope.names.lookup x == some .cell) = true; rw [e]; rfl)⟩
  locl x e := lookup_relS_keep (by simp) (locl_iff.mp e)
  gli x e := lookup_relS_keep (by simp) (gli_iff.mp e)
  cap x e := by
    rcases e with e | e
    · exact .inl (lookup_relS_keep (by simp) e)
    · exact (lookup_relS_free e).symm
theorem blk_ok {N : List Str} {sc scope : Scope} {own : List Nat} (e : blkB N sc scope own = true) : ∃ own' : List (Str × Nat), own'.map (·.2) = own ∧ BlkOk N sc scope own' := by
  unfold blkB at e
  simp only [Bool.and_eq_true, List.all_eq_true, decide_eq_true_eq] at e
  obtain ⟨⟨⟨h1, h2⟩, h3⟩, h4⟩ := e
  have key : ∀ own : List Nat, (∀ i ∈ own, (N[i]?).isSome = true) → ∃ own' : List (Str × Nat), own'.map (·.2) = own ∧ (∀ p ∈ own', N[p.2]? = some p.1) ∧ own'.map (·.1) = own.filterMap fun i => N[i]? := fun own => by
    induction own with
    | nil => exact fun _ => ⟨[], rfl, by simp, rfl⟩
    | cons i r ih =>
      intro hh
      obtain ⟨o', a1, a2, a3⟩ := ih fun k hk => hh k (List.mem_cons_of_mem _ hk)
      obtain ⟨x, hx⟩ := Option.isSome_iff_exists.mp (hh i (List.mem_cons_self ..))
      refine ⟨(x, i) :: o', by simp [a1], fun p hp => ?_, by simp [hx, a3]⟩
      rcases List.mem_cons.mp hp with rfl | hp
      · exact hx
      · exact a2 p hp
  obtain ⟨o', a1, a2, a3⟩ := key own h3
  refine ⟨o', a1, ?_, h2, a2, fun y hy e => ?_, fun y hy e => ?_⟩
  · split at h1
    · assumption
    · cases h1
  · have q := h4 y hy
    simp only [e] at q
    split at q <;> first | exact .inl (by assumption) | exact .inr (by assumption) | cases q
  · have q := h4 y hy
    rw [a3]
    rcases e with e | e <;> (simp only [e, Bool.or_eq_true, decide_eq_true_eq] at q; exact q)
theorem BlkOk.sc {N : List Str} {sc sc' scope : Scope} {own : List (Str × Nat)} (b : BlkOk N sc scope own) (c : ∀ x, sc.names.lookup x = some .cell ∨ sc.names.lookup x = some .free → sc'.names.lookup x = some .cell ∨ sc'.names.lookup x = some .free) : BlkOk N sc' scope own :=
  ⟨b.kind, b.uniq, b.ix, fun y hy e => c _ (b.free y hy e), b.own⟩
/-! ### targets -/
def sameBut (l : List Nat) (σ σ' : L2.St) : Prop := ∀ vs : List Nat, (∀ i ∈ l, i ∈ vs) → L2.wipe σ' vs = L2.wipe σ vs
def gA (G : Gd) (t : Tg) : TG := fun x σ H Q => ∃ j s h v s', Sto G j h H ∧ Slo G j H s σ ∧ RV G j H v x ∧ asn t v s = some s' ∧ ∀ σ', Slo G j H s' σ' → sameBut (tgN t) σ σ' → Q σ' H
def gAs (G : Gd) (ts : List Tg) : TGs := fun xs σ H Q => ∃ j s h vs s', Sto G j h H ∧ Slo G j H s σ ∧ RVs G j H vs xs ∧ asn.asns ts vs s = some s' ∧ ∀ σ', Slo G j H s' σ' → sameBut (tgNs ts) σ σ' → Q σ' H
theorem wipe_at {σ : L2.St} : ∀ {vs : List Nat} {i : Nat}, i < σ.length → (L2.wipe σ vs)[i]? = if i ∈ vs then some none else σ[i]?
  | [], i, h => by simp [L2.wipe]
  | v :: vs, i, h => by
    unfold L2.wipe
    by_cases hi : v = i
    · subst hi
      rw [List.getElem?_set_self (by rw [L2.wipe_length]; exact h)]
      simp
    · rw [List.getElem?_set_ne hi, wipe_at h]
      have : (i ∈ v :: vs) ↔ i ∈ vs := by simp [Ne.symm hi]
      simp [this]
theorem sameBut_set {σ : L2.St} {i : Nat} {o : Option V} : sameBut [i] σ (σ.set i o) := fun vs hv => by
  refine List.ext_getElem? fun k => ?_
  by_cases hk : k < σ.length
  · rw [wipe_at hk, wipe_at (by rw [List.length_set]; exact hk)]
    by_cases hm : k ∈ vs
    · rw [if_pos hm, if_pos hm]
    · rw [if_neg hm, if_neg hm, List.getElem?_set_ne]
      rintro rfl
      exact hm (hv i (List.mem_singleton.mpr rfl))
  · rw [List.getElem?_eq_none (by rw [L2.wipe_length, List.length_set]; omega), List.getElem?_eq_none (by rw [L2.wipe_length]; omega)]
theorem sameBut.trans {l m : List Nat} {σ σ' σ'' : L2.St} (a : sameBut l σ σ') (b : sameBut m σ' σ'') : sameBut (l ++ m) σ σ'' := fun vs hv =>
  (b vs fun i hi => hv i (List.mem_append_right _ hi)).trans (a vs fun i hi => hv i (List.mem_append_left _ hi))
theorem wipe_wipe {σ : L2.St} {vs : List Nat} : L2.wipe (L2.wipe σ vs) vs = L2.wipe σ vs := by
  refine List.ext_getElem? fun k => ?_
  by_cases hk : k < σ.length
  · rw [wipe_at (by rw [L2.wipe_length]; exact hk), wipe_at hk]
    by_cases hm : k ∈ vs
    · rw [if_pos hm, if_pos hm]
    · rw [if_neg hm, if_neg hm]
  · rw [List.getElem?_eq_none (by rw [L2.wipe_length, L2.wipe_length]; omega), List.getElem?_eq_none (by rw [L2.wipe_length]; omega)]
theorem _root_.L2.PG.dimp {X : Cx} {e : Expr} {t t' : TG} (h : PG X e t) (i : ∀ v σ H Q, t' v σ H Q → t v σ H Q) : PG X e t' := ⟨fun pins s σ H v u Q I r q => h.run pins s σ H v u Q I r (i v σ H Q q)⟩
theorem _root_.L2.PGs.dimp {X : Cx} {e : List Expr} {t t' : TGs} (h : PGs X e t) (i : ∀ v σ H Q, t' v σ H Q → t v σ H Q) : PGs X e t' := ⟨fun pins s σ H v u Q I r q => h.run pins s σ H v u Q I r (i v σ H Q q)⟩
theorem tup_sq {l : List Va} {x : V} (hK : G.K = X.K) (r : RV G j H (.tup l) x) : ∃ a xs, x = .ref a ∧ SqT X.K H a xs ∧ RVs G j H l xs := by
  cases r with
  | tup h r => exact ⟨_, _, rfl, .inl (.inl h), r⟩
  | ktup m k r =>
    obtain ⟨o, its, n, h1, h2, h3, h4, h5⟩ := k
    exact ⟨_, _, rfl, .inr ⟨o, its, n, hK ▸ h1, h2, h3, h4, h5⟩, r⟩
theorem asns_len : ∀ {ts : List Tg} {vs : List Va} {s s' : Slots}, asn.asns ts vs s = some s' → vs.length = ts.length
  | [], [], _, _, _ => rfl
  | [], _ :: _, _, _, e => by unfold asn.asns at e; cases e
  | _ :: _, [], _, _, e => by unfold asn.asns at e; cases e
  | t :: ts, v :: vs, s, s', e => by
    unfold asn.asns at e
    split at e
    · rw [List.length_cons, List.length_cons, asns_len e]
    · cases e
mutual
theorem sndT (hK : G.K = X.K) (hc : X.calm = true) (hN : X.N.Nodup) {sc : Scope} (ag : Ag X sc) : ∀ (t : Tg) (a : Expr), chkT X.N sc t a = true → PG X a (gA G t)
  | .nm i, a, e => by
    unfold chkT at e
    split at e <;> first | (cases e; done) | skip
    rename_i x p
    rw [Bool.and_eq_true, decide_eq_true_eq] at e
    obtain ⟨h1, h2⟩ := ag.loc _ e.2
    refine (pg_name hN e.1 h1 h2).dimp fun x σ H Q ⟨j, s, h, v, s', S, L, r, e, q⟩ => ?_
    unfold asn at e
    cases e
    exact q _ (L.set i r) (by unfold tgN; exact sameBut_set)
  | .tup ts, a, e => by
    unfold chkT at e
    split at e <;> first | (cases e; done) | skip
    rename_i es n p
    obtain ⟨z, h2⟩ := sndTs hK hc hN ag ts es e
    refine (pg_tup (n := es.length) hc z h2.1 h2.2.1).dimp fun x σ H Q ⟨j, s, h, v, s', S, L, r, e, q⟩ => ?_
    cases v with
    | tup vs =>
      unfold asn at e
      obtain ⟨a, xs, e1, h3, h4⟩ := tup_sq hK r
      exact ⟨a, xs, e1, h3, by rw [← h4.length, asns_len e, h2.2.2], j, s, h, vs, s', S, L, h4, e, fun σ' L' sb => q σ' L' (by unfold tgN; exact sb)⟩
    | _ => unfold asn at e; cases e
theorem sndTs (hK : G.K = X.K) (hc : X.calm = true) (hN : X.N.Nodup) {sc : Scope} (ag : Ag X sc) : ∀ (ts : List Tg) (es : List Expr), chkT.chkTs X.N sc ts es = true → PGs X es (gAs G ts) ∧ (assignEach es X.env).length = es.length ∧ (assignEach es X.env).findIdx? (·.1) = none ∧ ts.length = es.length
  | [], [], _ => by
    refine ⟨pgs_nil.dimp fun xs σ H Q ⟨j, s, h, vs, s', S, L, r, e, q⟩ => ?_, rfl, rfl, rfl⟩
    cases vs with
    | nil =>
      unfold asn.asns at e
      cases e
      cases r
      exact ⟨rfl, q _ L fun _ _ => rfl⟩
    | cons v vs =>
      unfold asn.asns at e
      cases e
  | [], _ :: _, e => by unfold chkT.chkTs at e; cases e
  | _ :: _, [], e => by unfold chkT.chkTs at e; cases e
  | t :: ts, a :: es, e => by
    unfold chkT.chkTs at e
    rw [Bool.and_eq_true] at e
    have h1 := sndT hK hc hN ag t a e.1
    obtain ⟨h2, h3, h4, h5⟩ := sndTs hK hc hN ag ts es e.2
    have st : assignEach (a :: es) X.env = (false, assign a X.env) :: assignEach es X.env := by
      unfold chkT at e
      cases a <;> first | rfl | (exfalso; revert e; cases t <;> simp)
    refine ⟨(pgs_cons h1 h2 (by rw [st]; rfl)).dimp fun xs σ H Q ⟨j, s, h, vs, s', S, L, r, e, q⟩ => ?_, ?_, ?_, by simp [h5]⟩
    · cases vs with
      | nil =>
        unfold asn.asns at e
        cases e
      | cons v vs =>
        unfold asn.asns at e
        cases r with
        | @cons _ w _ ws r1 r2 =>
        split at e
        · rename_i s2 e2
          exact ⟨w, ws, rfl, j, s, h, v, s2, S, L, r1, e2, fun σ2 L2 sb2 => ⟨j, s2, h, vs, s', S, L2, r2, e, fun σ3 L3 sb3 => q σ3 L3 (by unfold tgNs; exact sb2.trans sb3)⟩⟩
        · cases e
    · rw [st]; simp [h3]
    · rw [st, List.findIdx?_cons, h4]; rfl
end
end
end Dl
set_option Elab.async false
set_option linter.all false
set_option maxRecDepth 100000
set_option maxHeartbeats 2000000
/-! What is gone over; list comprehensions. -/
namespace Dl
open PySem PySem.Spec PyProof.Rows L2
/-- an iterator that gives these items, while kp holds -/
def ItOk (J : It) (kp : List V → Hp → Prop) : Prop := ∀ (xs : List V) (i : Nat) (H : Hp), kp xs H → (∀ x, xs[i]? = some x → J.go i H ∧ ∀ x' H', J.yld i H x' H' → H' = H ∧ x' = x) ∧ (xs.length ≤ i → J.stop i H)
def Tells (G : Gd) (j : List Addr) (H : Hp) (J : It) (l : List Va) (st : Store → Bool) : Prop :=
  ∃ kp, ItOk J kp ∧ ∀ j2 h2 H2, Ext j H j2 H2 → Sto G j2 h2 H2 → st h2 = true → ∃ xs, kp xs H2 ∧ RVs G j2 H2 l xs
def PostI (G : Gd) (j : List Addr) (H : Hp) (r : R) (R : It → Hp → Prop) (W : XK) : Prop :=
  match r with
  | .ok v h' => ∃ l n, iter h' v = some (l, n) ∧ ∀ j' H' J, Ext j H j' H' → Sto G j' h' H' → Tells G j' H' J l (fun h => stays h l n) → R J H'
  | .exc c fs h' => ∀ j' H' d, Ext j H j' H' → Sto G j' h' H' → RX G j' H' fs d → W (G.CV c) d H'
  | .bad => False
def tI (G : Gd) (f : Slots → Store → R) (W : WX) : TI := fun σ H R => ∃ j s h, Sto G j h H ∧ Slo G j H s σ ∧ PostI G j H (f s h) R fun c d H' => W c d σ H'
theorem _root_.L2.PI.dimp {X : Cx} {tg e : Expr} {t t' : TI} (h : PI X tg e t) (i : ∀ σ H Q, t' σ H Q → t σ H Q) : PI X tg e t' := ⟨fun pins s σ H Q I q => h.run pins s σ H Q I (i σ H Q q)⟩
theorem _root_.L2.PI.dor {X : Cx} {tg e : Expr} {t t' : TI} (h : PI X tg e t) (h' : PI X tg e t') : PI X tg e (fun σ H Q => t σ H Q ∨ t' σ H Q) :=
  ⟨fun pins s σ H Q I q => q.elim (h.run pins s σ H Q I) (h'.run pins s σ H Q I)⟩
theorem itl_ok {K : PySem.W.Frag} {a : Addr} : ItOk (Itl K a) fun xs H => SqL K H a xs := fun xs i H k =>
  ⟨fun x e => ⟨⟨xs, x, k, e⟩, fun x' H' y => ⟨y.1, by have := y.2 xs k; rw [e] at this; exact (Option.some.inj this).symm⟩⟩, fun hl => ⟨xs, k, hl⟩⟩
theorem itt_ok {K : PySem.W.Frag} {a : Addr} : ItOk (Itt K a) fun xs H => SqT K H a xs := fun xs i H k =>
  ⟨fun x e => ⟨⟨xs, x, k, e⟩, fun x' H' y => ⟨y.1, by have := y.2 xs k; rw [e] at this; exact (Option.some.inj this).symm⟩⟩, fun hl => ⟨xs, k, hl⟩⟩
theorem its_ok {z : Str} : ItOk (Its z) fun xs H => xs = z.cps.toList.map fun c => .str ⟨#[c]⟩ := fun xs i H k => by
  subst k
  refine ⟨fun x e => ?_, fun hl => by simpa [Its] using hl⟩
  rw [List.getElem?_map] at e
  cases q : z.cps.toList[i]? with
  | none => rw [q] at e; cases e
  | some c =>
    rw [q] at e
    cases e
    refine ⟨by have := (List.getElem?_eq_some_iff.mp q).1; simpa [Its] using this, fun x' H' y => ?_⟩
    obtain ⟨y1, c', y2, y3⟩ := y
    rw [Array.getElem?_toList] at q
    rw [q] at y2
    cases y2
    exact ⟨y1, y3⟩
theorem rangeI_len : ∀ (lo : Int) (n : Nat), (rangeI lo n).length = n
  | _, 0 => rfl
  | lo, n + 1 => by unfold rangeI; rw [List.length_cons, rangeI_len]
theorem rangeI_get : ∀ (lo : Int) (n i : Nat), i < n → (rangeI lo n)[i]? = some (.int (lo + i))
  | _, 0, _, h => absurd h (by omega)
  | lo, n + 1, 0, _ => by unfold rangeI; simp
  | lo, n + 1, i + 1, h => by
    unfold rangeI
    rw [List.getElem?_cons_succ, rangeI_get (lo + 1) n i (by omega)]
    congr 2
    push_cast
    omega
def rangeV (lo : Int) (n : Nat) : List V := (List.range n).map fun (i : Nat) => V.int (lo + i)
theorem itr_ok {lo : Int} {n : Nat} : ItOk (Itr lo n) fun xs H => xs = rangeV lo n := fun xs i H k => by
  subst k
  unfold rangeV
  refine ⟨fun x e => ?_, fun hl => by simpa [Itr] using hl⟩
  rw [List.getElem?_map] at e
  cases q : (List.range n)[i]? with
  | none => rw [q] at e; cases e
  | some c =>
    rw [q] at e
    cases e
    obtain ⟨h1, h2⟩ := List.getElem?_eq_some_iff.mp q
    simp at h1 h2
    subst h2
    exact ⟨h1, fun x' H' y => ⟨y.1, y.2⟩⟩
section
variable {X : Cx} {G : Gd} {W : WX} {j : List Addr} {H : Hp} {h : Store}
theorem RVs.ints {lo : Int} {n : Nat} : RVs G j H (rangeI lo n) (rangeV lo n) := by
  have : ∀ l : List Nat, RVs G j H (l.map fun (i : Nat) => Va.int (lo + i)) (l.map fun (i : Nat) => V.int (lo + i)) := fun l => by
    induction l with
    | nil => exact .nil
    | cons a l ih => exact .cons (.int _) ih
  have e : rangeI lo n = (List.range n).map fun (i : Nat) => Va.int (lo + i) := List.ext_getElem? fun i => by
    by_cases hi : i < n
    · rw [rangeI_get lo n i hi, List.getElem?_map, List.getElem?_range hi]; rfl
    · rw [List.getElem?_eq_none (by rw [rangeI_len]; omega), List.getElem?_eq_none (by simp; omega)]
  rw [e]
  exact this _
theorem RVs.chars : ∀ cs : List Nat, RVs G j H (cs.map fun c => .str ⟨#[c]⟩) (cs.map fun c => .str ⟨#[c]⟩)
  | [] => .nil
  | c :: cs => .cons (.str _) (RVs.chars cs)
theorem s_iter {C : Cfg} {e : Ex} {a tg : Expr} (hK : G.K = X.K) (he : PE X a (tE G (evE C e) W)) : PI X tg a (tI G (evE C e) W) :=
  (PI.dor (pi_list he) (PI.dor (pi_tup he) (pi_str he))).dimp fun σ H R ⟨j, s, h, S, L, p⟩ => by
    unfold iList iTup iStr
    cases q : evE C e s h with
    | bad => rw [q] at p; exact False.elim p
    | exc c fs h1 =>
      rw [q] at p
      refine .inl ⟨j, s, h, S, L, ?_⟩
      rw [q]
      exact p
    | ok v h1 =>
      rw [q] at p
      obtain ⟨l, n, e1, p⟩ := p
      unfold iter at e1
      cases v with
      | tup l' =>
        cases e1
        refine .inr (.inl ⟨j, s, h, S, L, ?_⟩)
        rw [q]
        refine fun j1 H1 x ex S1 r1 => ?_
        obtain ⟨b, xs, rfl, h3, h4⟩ := tup_sq hK r1
        refine ⟨b, rfl, ⟨xs, h3⟩, p j1 H1 _ ex S1 ⟨_, itt_ok, fun j2 h2 H2 ex2 S2 _ => ⟨xs, ?_, h4.mono ex2⟩⟩⟩
        rcases h3 with (h3 | ⟨o, h3⟩) | h3
        · exact .inl (.inl (ex2.tu _ _ h3))
        · exact .inl (.inr ⟨o, ex2.fz _ _ _ h3⟩)
        · exact .inr h3
      | rl l' =>
        cases e1
        refine .inl ⟨j, s, h, S, L, ?_⟩
        rw [q]
        refine fun j1 H1 x ex S1 r1 => ?_
        cases r1 with
        | rl h3 h4 => exact ⟨_, rfl, ⟨_, .inl (.inr ⟨_, h3⟩)⟩, p j1 H1 _ ex S1 ⟨_, itl_ok, fun j2 h2 H2 ex2 S2 _ => ⟨_, .inl (.inr ⟨_, ex2.fz _ _ _ h3⟩), h4.mono ex2⟩⟩⟩
        | krl h3 h4 =>
          obtain ⟨o, its, n, k1, k2⟩ := h3
          have h3 : ∃ (o : Obj) (its : Array Value) (n : Nat), X.K.lookup _ = some o ∧ o.cls = .type "list" ∧ o.dict = none ∧ o.data = .seq its n ∧ its.size ≤ sizeLine ∧ Vals _ its.toList := ⟨o, its, n, hK ▸ k1, k2⟩
          exact ⟨_, rfl, ⟨_, .inr h3⟩, p j1 H1 _ ex S1 ⟨_, itl_ok, fun j2 h2 H2 ex2 S2 _ => ⟨_, .inr h3, h4.mono ex2⟩⟩⟩
      | str z =>
        cases e1
        refine .inr (.inr ⟨j, s, h, S, L, ?_⟩)
        rw [q]
        refine fun j1 H1 x ex S1 r1 => ?_
        cases r1
        exact ⟨z, rfl, p j1 H1 _ ex S1 ⟨_, its_ok, fun j2 h2 H2 ex2 S2 _ => ⟨_, rfl, RVs.chars _⟩⟩⟩
      | ref m =>
        dsimp only at e1
        cases e2 : rd h1 m with
        | none => rw [e2] at e1; cases e1
        | some l' =>
          rw [e2] at e1
          cases e1
          refine .inl ⟨j, s, h, S, L, ?_⟩
          rw [q]
          refine fun j1 H1 x ex S1 r1 => ?_
          obtain ⟨a, rfl, ea⟩ := r1.refA
          obtain ⟨xs, h3, h4⟩ := S1.lst ea (rd_some e2)
          refine ⟨a, rfl, ⟨xs, .inl (.inl h3)⟩, p j1 H1 _ ex S1 ⟨_, itl_ok, fun j2 h2 H2 ex2 S2 st => ?_⟩⟩
          unfold stays at st
          obtain ⟨ys, h5, h6⟩ := S2.lst (pre_get ex2.pre ea) (of_decide_eq_true st)
          exact ⟨ys, .inl (.inl h5), h6⟩
      | _ => cases e1
/-- range(..) -/
def PostRg (G : Gd) (j : List Addr) (H : Hp) (r : Rl) (R : It → Hp → Prop) (W : XK) : Prop :=
  match r with
  | .ok vs h' => ∃ l, rngI vs = some l ∧ ∀ j' H' J, Ext j H j' H' → Sto G j' h' H' → Tells G j' H' J l (fun _ => true) → R J H'
  | .exc c fs h' => ∀ j' H' d, Ext j H j' H' → Sto G j' h' H' → RX G j' H' fs d → W (G.CV c) d H'
  | .bad => False
def tRg (G : Gd) (f : Slots → Store → Rl) (W : WX) : TI := fun σ H R => ∃ j s h, Sto G j h H ∧ Slo G j H s σ ∧ PostRg G j H (f s h) R fun c d H' => W c d σ H'
theorem s_rng1 {C : Cfg} {e : Ex} {a tg : Expr} {p pos : Pos} (hg : Gl X "range") (hm : X.mg "range" = none) (ha : PA X [a] (tL G (evL C [e]) W)) (hs : starEach [a] X.env = [(false, eval a X.env)]) :
    PI X tg (.Call (.Name "range" p) [a] [] pos) (tRg G (evL C [e]) W) := (pi_range1 hg hm ha hs).dimp fun σ H R ⟨j, s, h, S, L, p⟩ => by
  refine ⟨j, s, h, S, L, ?_⟩
  cases q : evL C [e] s h with
  | bad => rw [q] at p; exact False.elim p
  | exc c fs h1 => rw [q] at p; exact p
  | ok vs h1 =>
    rw [q] at p
    obtain ⟨l, e1, p⟩ := p
    refine fun j1 H1 x ex S1 r1 => ?_
    have hl := evL_len q
    match vs, hl, r1, e1 with
    | [v], _, .cons r1 .nil, e1 =>
      unfold rngI at e1
      cases v <;> first | (cases e1; done) | skip
      cases r1
      dsimp only at e1
      split at e1
      · rename_i hb
        cases e1
        refine ⟨_, rfl, hb.1, hb.2, p j1 H1 _ ex S1 ⟨_, itr_ok, fun _ _ _ _ _ _ => ⟨_, rfl, RVs.ints⟩⟩⟩
      · cases e1
theorem s_rng2 {C : Cfg} {e f : Ex} {a b tg : Expr} {p pos : Pos} (hg : Gl X "range") (hm : X.mg "range" = none) (ha : PA X [a, b] (tL G (evL C [e, f]) W)) (hs : starEach [a, b] X.env = [(false, eval a X.env), (false, eval b X.env)]) (hs2 : starEach [b] X.env = [(false, eval b X.env)]) :
    PI X tg (.Call (.Name "range" p) [a, b] [] pos) (tRg G (evL C [e, f]) W) := (pi_range2 hg hm ha hs hs2).dimp fun σ H R ⟨j, s, h, S, L, p⟩ => by
  refine ⟨j, s, h, S, L, ?_⟩
  cases q : evL C [e, f] s h with
  | bad => rw [q] at p; exact False.elim p
  | exc c fs h1 => rw [q] at p; exact p
  | ok vs h1 =>
    rw [q] at p
    obtain ⟨l, e1, p⟩ := p
    refine fun j1 H1 x ex S1 r1 => ?_
    have hl := evL_len q
    match vs, hl, r1, e1 with
    | [v, v'], _, .cons r1 (.cons r2 .nil), e1 =>
      unfold rngI at e1
      cases v <;> first | (cases e1; done) | skip
      cases v' <;> first | (cases e1; done) | skip
      cases r1
      cases r2
      dsimp only at e1
      split at e1
      · rename_i hb
        cases e1
        refine ⟨_, _, rfl, ⟨hb.1.1, hb.1.2, hb.2.1, hb.2.2⟩, p j1 H1 _ ex S1 ⟨_, itr_ok, fun _ _ _ _ _ _ => ⟨_, rfl, RVs.ints⟩⟩⟩
      · cases e1
end
end Dl
set_option Elab.async false
set_option linter.all false
set_option maxRecDepth 100000
set_option maxHeartbeats 2000000
/-! List comprehensions. -/
namespace Dl
open PySem PySem.Spec PyProof.Rows L2
/-- nothing gets out -/
def Wno : WX := fun _ _ _ _ => False
theorem goC_exc {chk : Store → Bool} {f : Va → Store → Option (Option Va × Store)} : ∀ {l acc : List Va} {h : Store} {c : Nat} {fs : List Va} {h' : Store}, goC chk f l acc h ≠ .exc c fs h'
  | [], acc, h, c, fs, h', e => by
    unfold goC at e
    split at e <;> cases e
  | x :: xs, acc, h, c, fs, h', e => by
    unfold goC at e
    split at e
    · split at e
      · exact goC_exc e
      · exact goC_exc e
      · cases e
    · cases e
/-- a block's tests -/
def tC (G : Gd) (C : Cfg) (o : Option Ex) : TT := fun σ H Q => ∃ j s h, Sto G j h H ∧ Slo G j H s σ ∧
  match evC C o s h with
  | some (b, h') => ∀ j' H', Ext j H j' H' → Sto G j' h' H' → Q b H'
  | none => False
def turnC (C : Cfg) (t : Tg) (cond : Option Ex) (elt : Ex) (own : List Nat) (s : Slots) : Va → Store → Option (Option Va × Store) := fun x h => match asn t x (wipeS s own) with
  | some s' => match evC C cond s' h with
    | some (true, h) => (evE C elt s' h).opt.map fun (v, h) => (some v, h)
    | some (false, h) => some (none, h)
    | none => none
  | none => none
section
variable {X : Cx} {G : Gd} {W : WX} {j : List Addr} {H : Hp} {h : Store}
theorem _root_.L2.PTs.dimp {X : Cx} {e : List Expr} {t t' : TT} (h : PTs X e t) (i : ∀ σ H Q, t' σ H Q → t σ H Q) : PTs X e t' := ⟨fun pins s σ H Q I q => h.run pins s σ H Q I (i σ H Q q)⟩
theorem c_none {C : Cfg} : PTs X [] (tC G C none) := pts_nil.dimp fun σ H Q ⟨j, s, h, S, L, p⟩ => p j H .refl S
theorem c_some {C : Cfg} {c : Ex} {a : Expr} (hc : PT X a (tT G (evE C c) Wno)) : PTs X [a] (tC G C (some c)) := (pts_one hc).dimp fun σ H Q ⟨j, s, h, S, L, p⟩ => by
  refine ⟨j, s, h, S, L, ?_⟩
  unfold evC at p
  unfold tru1
  dsimp only
  cases q : evE C c s h with
  | bad => rw [q] at p; exact False.elim p
  | exc c fs h1 => rw [q] at p; exact False.elim p
  | ok v h1 =>
    rw [q] at p
    dsimp only [R.bind] at p ⊢
    cases t : truthy h1 v with
    | none => rw [t] at p; exact False.elim p
    | some b =>
      rw [t] at p
      intro j' H' w ex S1 r
      exact ⟨b, r.blE, p j' H' ex S1⟩
theorem lc_any {C : Cfg} {t : Tg} {cond : Option Ex} {elt : Ex} {own : List Nat} {l : List Va} {st : Store → Bool} {J : It} {s : Slots} {σ : L2.St} {j1 : List Addr} {H1 : Hp} {h1 hE : Store} {vs : List Va} {D : Addr} {Qd : Hp → Prop} (hown : ∀ i ∈ tgN t, i ∈ own)
    (S1 : Sto G j1 h1 H1) (L1 : Slo G j1 H1 s σ) (tl : Tells G j1 H1 J l st) (hlen : l.length ≤ sizeLine) (hD : H1 D = none) (e : goC st (turnC C t cond elt own s) l [] h1 = .ok vs hE)
    (hq : ∀ j' H', Ext j1 H1 j' H' → Sto G j' (hE ++ [.lst vs]) H' → j'[hE.length]? = some D → Qd H') :
    ∃ W : Nat → Nat → Hp → Prop, (∃ m, W 0 m (upd H1 D (.lst []))) ∧ ∀ i m H, W i m H →
      (J.stop i H ∧ Qd H) ∨ (J.go i H ∧ ∃ Nx : Hp → Prop, (∀ H', Nx H' → ∃ m', m' < m ∧ W (i + 1) m' H') ∧ ∀ x H', J.yld i H x H' → gA G t x (L2.wipe σ own) H' fun σ2 H2 => L2.wipe σ2 own = L2.wipe σ own ∧ tC G C cond σ2 H2 fun b H3 =>
        if b = true then tE G (evE C elt) Wno σ2 H3 fun y H4 => ∃ acc, H4 D = some (.lst acc) ∧ acc.length < sizeLine ∧ Nx (upd H4 D (.lst (acc ++ [y]))) else Nx H3) := by
  obtain ⟨kp, ik, kk⟩ := tl
  let Pv : Nat → Hp → Prop := fun i H => ∃ j h acc ys, Ext j1 H1 j H ∧ Sto G j h H ∧ D ∉ j ∧ H D = some (.lst ys) ∧ RVs G j H acc.reverse ys ∧ acc.length ≤ i ∧ goC st (turnC C t cond elt own s) (l.drop i) acc h = .ok vs hE
  have hDj : D ∉ j1 := S1.no hD
  refine ⟨fun i m H => m = l.length - i ∧ i ≤ l.length ∧ Pv i H, ⟨l.length, by simp, Nat.zero_le _, j1, h1, [], [], ?_, ?_, hDj, upd_same, .nil, Nat.le_refl _, e⟩, ?_⟩
  · exact Ext.side Ext.refl hD
  · exact S1.laid hD
  rintro i m H ⟨rfl, hi, j, h, acc, ys, ex, S, nD, eD, ra, la, e⟩
  have hst : st h = true := by
    by_cases z : st h = true
    · exact z
    · cases hl : l.drop i with
      | nil => rw [hl] at e; unfold goC at e; rw [if_neg z] at e; cases e
      | cons x xs => rw [hl] at e; unfold goC at e; rw [if_neg z] at e; cases e
  obtain ⟨xs, k1, k2⟩ := kk j h H ex S hst
  by_cases hlt : i < l.length
  · refine .inr ?_
    have hx : l[i]? = some l[i] := by simp [hlt]
    obtain ⟨w, hw, rw_⟩ := k2.get hx
    obtain ⟨g1, g2⟩ := (ik xs i H k1).1 w hw
    rw [List.drop_eq_getElem_cons hlt] at e
    unfold goC at e
    rw [if_pos hst] at e
    refine ⟨g1, Pv (i + 1), fun H' p' => ⟨l.length - (i + 1), by omega, rfl, hlt, p'⟩, fun x H' y => ?_⟩
    obtain ⟨e1, e2⟩ := g2 x H' y
    subst e1 e2
    unfold turnC at e
    cases ea : asn t l[i] (wipeS s own) with
    | none => rw [ea] at e; cases e
    | some s' =>
      rw [ea] at e
      refine ⟨j, wipeS s own, h, l[i], s', S, (L1.mono ex).wipe own, rw_, ea, fun σ2 L2 sb => ⟨by rw [sb own hown, wipe_wipe], ?_⟩⟩
      dsimp only at e
      cases ec : evC C cond s' h with
      | none => rw [ec] at e; cases e
      | some bh =>
        obtain ⟨b, h3⟩ := bh
        rw [ec] at e
        refine ⟨j, s', h, S, L2, ?_⟩
        rw [ec]
        intro j3 H3 ex3 S3
        have eD3 := ex3.fr D _ nD eD
        have nD3 : D ∉ j3 := fun z => by
          rw [ex3.nw D z nD] at eD
          cases eD
        cases b with
        | false =>
          rw [if_neg (by decide)]
          exact ⟨j3, h3, acc, ys, ex.trans ex3, S3, nD3, eD3, ra.mono ex3, by omega, e⟩
        | true =>
          rw [if_pos rfl]
          refine ⟨j3, s', h3, S3, L2.mono ex3, ?_⟩
          dsimp only at e
          cases ee : evE C elt s' h3 with
          | bad => rw [ee] at e; cases e
          | exc c fs h4 => rw [ee] at e; cases e
          | ok v h4 =>
            rw [ee] at e
            intro j4 H4 y ex4 S4 r4
            have eD4 := ex4.fr D _ nD3 eD3
            have nD4 : D ∉ j4 := fun z => by
              rw [ex4.nw D z nD3] at eD3
              cases eD3
            have hl : ys.length < sizeLine := by
              rw [← ra.length, List.length_reverse]
              omega
            have exx := (ex.trans ex3).trans ex4
            refine ⟨ys, eD4, hl, j4, h4, v :: acc, ys ++ [y], exx.side hD, S4.side nD4 eD4, nD4, upd_same, ?_, by simp; omega, e⟩
            rw [List.reverse_cons]
            exact RVs.append ((ra.mono (ex3.trans ex4)).kp (Kp.side eD4)) (.cons (r4.kp (Kp.side eD4)) .nil)
  · have ei : i = l.length := by omega
    subst ei
    refine .inl ⟨(ik xs _ H k1).2 (by rw [← k2.length]; exact Nat.le_refl _), ?_⟩
    rw [List.drop_length] at e
    unfold goC at e
    rw [if_pos hst] at e
    cases e
    refine hq (j ++ [D]) H (ex.adopt hD) (S.adopt nD ⟨ys, eD, ra.kp Kp.adopt⟩) ?_
    rw [← S.len]
    simp
theorem evE_comp {C : Cfg} {elt : Ex} {t : Tg} {it : Ex} {cond : Option Ex} {own : List Nat} {s : Slots} {h : Store} : evE C (.comp elt t it cond own) s h = (evE C it s h).bind fun v h => match iter h v with
    | some (l, n) => if l.length ≤ sizeLine then (goC (fun h => stays h l n) (turnC C t cond elt own s) l [] h).bind fun vs h => .ok (.ref h.length) (h ++ [.lst vs]) else .bad
    | none => .bad := by
  conv => lhs; unfold evE
  all_goals rfl
theorem evE_compR {C : Cfg} {elt : Ex} {t : Tg} {es : List Ex} {cond : Option Ex} {own : List Nat} {s : Slots} {h : Store} : evE C (.compR elt t es cond own) s h = (evL C es s h).bind fun vs h => match rngI vs with
    | some l => if l.length ≤ sizeLine then (goC (fun _ => true) (turnC C t cond elt own s) l [] h).bind fun vs h => .ok (.ref h.length) (h ++ [.lst vs]) else .bad
    | none => .bad := by
  conv => lhs; unfold evE
  all_goals rfl
/-- what a comprehension's reading gives -/
theorem comp_dimp {C : Cfg} {elt it : Ex} {t : Tg} {cond : Option Ex} {own : List Nat} (hown : ∀ i ∈ tgN t, i ∈ own) {σ : L2.St} {H : Hp} {Q : VK} (p : tE G (evE C (.comp elt t it cond own)) W σ H Q) :
    tLc (tI G (evE C it) W) (gA G t) (tC G C cond) (tE G (evE C elt) Wno) own σ H Q := by
  obtain ⟨j, s, h, S, L, p⟩ := p
  rw [evE_comp] at p
  unfold tLc
  refine ⟨j, s, h, S, L, ?_⟩
  cases q : evE C it s h with
  | bad => rw [q] at p; exact False.elim p
  | exc c fs h1 => rw [q] at p; exact p
  | ok v h1 =>
    rw [q] at p
    dsimp only [R.bind] at p
    cases q2 : iter h1 v with
    | none => rw [q2] at p; exact False.elim p
    | some ln =>
      obtain ⟨l, n⟩ := ln
      rw [q2] at p
      dsimp only at p
      by_cases hl : l.length ≤ sizeLine
      · rw [if_pos hl] at p
        refine ⟨l, n, q2, fun j1 H1 J ex S1 tl D hD => ?_⟩
        cases q3 : goC (fun h => stays h l n) (turnC C t cond elt own s) l [] h1 with
        | bad => rw [q3] at p; exact False.elim p
        | exc c fs h2 => exact absurd q3 goC_exc
        | ok vs hE =>
          rw [q3] at p
          exact lc_any hown S1 (L.mono ex) tl hl hD q3 fun j' H' ex' S' eD => p j' H' _ (ex.trans ex') S' (.ref eD)
      · rw [if_neg hl] at p
        exact False.elim p
theorem compR_dimp {C : Cfg} {elt : Ex} {es : List Ex} {t : Tg} {cond : Option Ex} {own : List Nat} (hown : ∀ i ∈ tgN t, i ∈ own) {σ : L2.St} {H : Hp} {Q : VK} (p : tE G (evE C (.compR elt t es cond own)) W σ H Q) :
    tLc (tRg G (evL C es) W) (gA G t) (tC G C cond) (tE G (evE C elt) Wno) own σ H Q := by
  obtain ⟨j, s, h, S, L, p⟩ := p
  rw [evE_compR] at p
  unfold tLc
  refine ⟨j, s, h, S, L, ?_⟩
  cases q : evL C es s h with
  | bad => rw [q] at p; exact False.elim p
  | exc c fs h1 => rw [q] at p; exact p
  | ok vs h1 =>
    rw [q] at p
    dsimp only [Rl.bind] at p
    cases q2 : rngI vs with
    | none => rw [q2] at p; exact False.elim p
    | some l =>
      rw [q2] at p
      dsimp only at p
      by_cases hl : l.length ≤ sizeLine
      · rw [if_pos hl] at p
        refine ⟨l, q2, fun j1 H1 J ex S1 tl D hD => ?_⟩
        cases q3 : goC (fun _ => true) (turnC C t cond elt own s) l [] h1 with
        | bad => rw [q3] at p; exact False.elim p
        | exc c fs h2 => exact absurd q3 goC_exc
        | ok vs hE =>
          rw [q3] at p
          exact lc_any hown S1 (L.mono ex) tl hl hD q3 fun j' H' ex' S' eD => p j' H' _ (ex.trans ex') S' (.ref eD)
      · rw [if_neg hl] at p
        exact False.elim p
end
end Dl
set_option Elab.async false
set_option linter.all false
set_option maxRecDepth 100000
set_option maxHeartbeats 4000000
/-! Every expression of the small language, as the machine runs it. -/
namespace Dl
open PySem PySem.Spec PyProof.Rows L2
section
variable {X : Cx} {W : WX} {D : Dt} {k : Nat} {pos : Pos}
theorem base_of {p : Expr} {n : Str} {env : Env} (h : plainO p = true) : attributeBase p n env (eval p env) = eval p env := by
  cases p <;> first | rfl | skip
  rename_i f as ks q
  cases f <;> first | rfl | skip
  cases as <;> first | rfl | skip
  cases ks <;> first | rfl | skip
  cases h
theorem star_of {M : Nm} {N : List Str} {sc : Scope} {e : Ex} {a : Expr} {as : List Expr} {env : Env} (h : chkE M N sc e a = true) : starEach (a :: as) env = (false, eval a env) :: starEach as env := by
  cases a <;> first | rfl | skip
  cases e <;> (unfold chkE at h; cases h)
theorem nostar_of {M : Nm} {N : List Str} {sc : Scope} {env : Env} : ∀ {es : List Ex} {as : List Expr}, chkL M N sc es as = true → (backTo pos (starEach as env)).any (·.1) = false
  | [], [], _ => rfl
  | [], _ :: _, h => by unfold chkL at h; cases h
  | _ :: _, [], h => by unfold chkL at h; cases h
  | e :: es, a :: as, h => by
    unfold chkL at h
    rw [Bool.and_eq_true] at h
    rw [star_of h.1]
    have := nostar_of (env := env) h.2
    unfold backTo at this ⊢
    rw [List.map_cons, List.any_cons, this]
    rfl
theorem chkL_nil {M : Nm} {N : List Str} {sc : Scope} {es : List Ex} (h : chkL M N sc es [] = true) : es = [] := by
  cases es with
  | nil => rfl
  | cons e es => unfold chkL at h; cases h
theorem chkL_len {M : Nm} {N : List Str} {sc : Scope} : ∀ {es : List Ex} {as : List Expr}, chkL M N sc es as = true → es.length = as.length
  | [], [], _ => rfl
  | [], _ :: _, h => by unfold chkL at h; cases h
  | _ :: _, [], h => by unfold chkL at h; cases h
  | e :: es, a :: as, h => by
    unfold chkL at h
    rw [Bool.and_eq_true] at h
    rw [List.length_cons, List.length_cons, chkL_len h.2]
theorem meth_eval {x : Expr} {n : Str} {as : List Expr} {ap : Pos} {env : Env} (h1 : plainO x = true) (h2 : (ap.endLine == pos.line) = true) (h3 : as.length < 20) (h4 : (backTo pos (starEach as env)).any (·.1) = false) :
    eval (.Call (.Attribute x n ap) as [] pos) env = (do
      let v ← eval x env
      standAt ap.atName
      let (g, fst) ← holding [v] (getMethod v n (do return (← importBound x env).getD true))
      callWith pos g fst (backTo pos (starEach as env)) (backToKw pos (keywordEach [] env))) := by
  have hf : methodCallForm (as.length + ([] : List Keyword).length) (backTo pos (starEach as env)) (backToKw pos (keywordEach [] env)) = true := by
    have hall : (backTo pos (starEach as env)).all (!·.1) = true := by
      rw [List.any_eq_false] at h4
      rw [List.all_eq_true]
      intro x hx
      have := h4 x hx
      simpa using this
    unfold methodCallForm
    rw [hall]
    show (true && true && decide (as.length + 0 + 0 < 30)) = true
    simp
    omega
  have hp : methodCallPos true x env ap pos = pure pos := by
    unfold methodCallPos
    rw [if_pos (by rw [h2]; rfl)]
  show (attributeBase x n env (eval x env) >>= fun ov => standAt ap.atName >>= fun _ => methodCall x n ap pos env ov (as.length + ([] : List Keyword).length) (backTo pos (starEach as env)) (backToKw pos (keywordEach [] env))) = _
  rw [base_of h1]
  unfold methodCall
  rw [hf, hp]
  rfl
theorem few_of {M : Nm} {N : List Str} {sc : Scope} {es : List Ex} {as : List Expr} {env : Env} (h : chkL M N sc es as = true) (hl : as.length < 20) : ((backTo pos (starEach as env)).all (fun x => !x.1) && (backToKw pos (keywordEach [] env)).all (fun x => x.1.isSome)
      && decide (as.length + ([] : List Keyword).length + (if ([] : List Keyword).isEmpty then 0 else 1) < 30)) = true := by
  have h4 := nostar_of (pos := pos) (env := env) h
  have hall : (backTo pos (starEach as env)).all (fun x => !x.1) = true := by
    rw [List.any_eq_false] at h4
    rw [List.all_eq_true]
    intro x hx
    have := h4 x hx
    simpa using this
  rw [hall]
  show (true && true && decide (as.length + 0 + 0 < 30)) = true
  simp
  omega
theorem bm_fin {G : Gd} {C : Cfg} {b : Bm} {o : Ex} {es : List Ex} (hb : b ≠ .clear) (hK : G.K = X.K) {σ : L2.St} {H : Hp} {Q : VK} (p : tE G (evE C (.bm b o es)) W σ H Q) : tBM X.K "list" (VM G fun h v vs => bmf b h v vs) (tE G (evE C o) W) (tL G (evL C es) W) σ H Q := by
  obtain ⟨j, s, h, S, L, p⟩ := p
  unfold evE at p
  refine ⟨j, s, h, S, L, PostE.bind p fun j1 H1 h1 v1 x ex S1 r1 p1 => ?_⟩
  split at p1
  · rename_i ht
    refine ⟨?_, j1, s, h1, S1, L.mono ex, PostL.bind p1 fun j2 H2 h2 vs xs ex2 S2 r2 p2 => ⟨j2, h2, v1, vs, _, S2, r1.mono ex2, r2, p2⟩⟩
    unfold bmT at ht
    split at ht
    · rename_i n
      obtain ⟨a, rfl, ea⟩ := r1.refA
      have : ∃ l, rd h1 n = some l := by
        cases b <;> first | exact Option.isSome_iff_exists.mp ht | exact absurd rfl hb
      obtain ⟨l, hl⟩ := this
      obtain ⟨xs, h3, h4⟩ := S1.lst ea (rd_some hl)
      exact .inl ⟨rfl, xs, .inl (.inl h3)⟩
    · cases ht
  · exact False.elim p1
theorem bm_fin0 {G : Gd} {C : Cfg} {b : Bm} {o : Ex} (hb : b ≠ .clear) (hK : G.K = X.K) {σ : L2.St} {H : Hp} {Q : VK} (p : tE G (evE C (.bm b o [])) W σ H Q) : tBM0 X.K "list" (VM G fun h v vs => bmf b h v vs) (tE G (evE C o) W) σ H Q := by
  obtain ⟨j, s, h, S, L, p⟩ := p
  unfold evE evL at p
  refine ⟨j, s, h, S, L, PostE.bind p fun j1 H1 h1 v1 x ex S1 r1 p1 => ?_⟩
  split at p1
  · rename_i ht
    refine ⟨?_, j1, h1, v1, [], _, S1, r1, .nil, p1⟩
    unfold bmT at ht
    split at ht
    · rename_i n
      obtain ⟨a, rfl, ea⟩ := r1.refA
      have : ∃ l, rd h1 n = some l := by
        cases b <;> first | exact Option.isSome_iff_exists.mp ht | exact absurd rfl hb
      obtain ⟨l, hl⟩ := this
      obtain ⟨xs, h3, h4⟩ := S1.lst ea (rd_some hl)
      exact .inl ⟨rfl, xs, .inl (.inl h3)⟩
    · cases ht
  · exact False.elim p1
/-- d.clear() -/
def rDClear2 : V → List V → Hp → VK → Prop := fun x vs H Q => ∃ a, x = .ref a ∧ vs = [] ∧ ((∃ kvs : List (Key × V), H a = some (.dK kvs) ∧ Q .non (upd H a (.dK []))) ∨ ∃ kvs : List (List Key × V), H a = some (.dT kvs) ∧ Q .non (upd H a (.dT [])))
theorem mt_clear2 : MtR X "dict.clear" rDClear2 := by
  intro pins s σ H x vs v us Q I rx rv h
  obtain ⟨a, rfl, rfl, h⟩ := h
  rcases h with ⟨kvs, e, q⟩ | ⟨kvs, e, q⟩
  · exact mtd_clear pins s σ H _ _ v us Q I rx rv ⟨a, kvs, rfl, rfl, e, q⟩
  · obtain rfl : v = Value.ref a := rx
    cases rv
    obtain ⟨z, hd, xs, rel, o, es, ep, e1, e2, e3, e4, e5⟩ := (show ObjOk X.prog X.w H s.heap a (.dT kvs) from I.hok a _ e)
    have hz : es.size ≤ sizeLine := by
      have l1 : es.toList.length = xs.length := by rw [e4, List.length_map]
      have l2 := rel.length
      rw [Array.length_toList] at l1
      omega
    have raw : s.heap.DictRaw a es ep := ⟨o, e1, e2, e3⟩
    refine call_meetsIn PySem.F.slot_dict_clear raw.typeIs PySem.F.entry_dict_clear (PySem.F.args_dict_clear_1 _) (meets_dict_clear_raw a) ⟨es, ep, raw, hz, fun h' dd' hs => ?_⟩
    have he : ∃ q, h'.get? a = some q := let ⟨q, hq, _⟩ := dd'; ⟨q, hq⟩
    obtain ⟨o', q1, q2, q3⟩ := dd'
    exact ⟨.non, _, d_write (t' := s.toks) (ob := .dT []) I (by rw [e]; exact True.intro) hs he ⟨Nat.zero_le _, hd, [], .nil, o', _, _, q1, q2, q3, rfl, List.nodup_nil⟩, rfl, q⟩
theorem s_clear {C : Cfg} {G : Gd} {o : Ex} {x : Expr} {ap : Pos} (hK : G.K = X.K) (h1 : plainO x = true) (h2 : (ap.endLine == pos.line) = true) (ho : PE X x (tE G (evE C o) W)) : PE X (.Call (.Attribute x "clear" ap) [] [] pos) (tE G (evE C (.bm .clear o [])) W) :=
  (PE.dor (pe_bm0 PySem.F.plainAttrs_list PySem.F.slot_list_clear PySem.F.type_list_clear mt_clear ho (base_of h1) h2) (pe_bm0 PySem.F.plainAttrs_dict PySem.F.slot_dict_clear PySem.F.type_dict_clear mt_clear2 ho (base_of h1) h2)).dimp fun σ H Q ⟨j, s, h, S, L, p⟩ => by
    unfold evE evL at p
    cases q : evE C o s h with
    | bad => rw [q] at p; exact False.elim p
    | exc c fs h1 =>
      rw [q] at p
      refine .inl ⟨j, s, h, S, L, ?_⟩
      rw [q]
      exact p
    | ok v h1 =>
      rw [q] at p
      dsimp only [R.bind, Rl.bind] at p
      split at p
      · rename_i ht
        unfold bmf at p
        cases v <;> first | exact False.elim p | skip
        rename_i n
        dsimp only at p
        cases hn : h1[n]? with
        | none => rw [hn] at p; exact False.elim p
        | some ob =>
          rw [hn] at p
          cases ob with
          | lst l =>
            refine .inl ⟨j, s, h, S, L, ?_⟩
            rw [q]
            intro j1 H1 y ex S1 r1
            obtain ⟨a, rfl, ea⟩ := r1.refA
            obtain ⟨xs, e1, e2⟩ := S1.lst ea hn
            exact ⟨.inl ⟨rfl, xs, .inl (.inl e1)⟩, a, xs, rfl, rfl, e1, (PostE.mono p ex).putL S1 ea .nil .non⟩
          | dct l =>
            refine .inr ⟨j, s, h, S, L, ?_⟩
            rw [q]
            intro j1 H1 y ex S1 r1
            obtain ⟨a, rfl, ea⟩ := r1.refA
            have p1 := PostE.mono p ex
            rcases S1.ob n a _ ea hn with ⟨ks, e1, e2⟩ | ⟨ks, e1, e2⟩
            · exact ⟨.inr (.inr (.inl ⟨rfl, .inl ⟨ks, e1⟩⟩)), a, rfl, rfl, .inl ⟨ks, e1, p1 _ _ _ (Ext.put S1 ea) (S1.put ea (.inl ⟨[], upd_same, .nil⟩)) .non⟩⟩
            · exact ⟨.inr (.inr (.inl ⟨rfl, .inr ⟨ks, e1⟩⟩)), a, rfl, rfl, .inr ⟨ks, e1, p1 _ _ _ (Ext.put S1 ea) (S1.put ea (.inr ⟨[], upd_same, .nil⟩)) .non⟩⟩
          | ins c fs => exact False.elim p
      · exact False.elim p
theorem s_bm {C : Cfg} {G : Gd} {b : Bm} {o : Ex} {es : List Ex} {x : Expr} {as : List Expr} {n : Str} {ap : Pos} {M : Nm} {sc : Scope} (hK : G.K = X.K) (hb : b.ok = true) (hb0 : b = .clear → as = []) (hn : n = b.nm) (h1 : plainO x = true) (h2 : (ap.endLine == pos.line) = true) (h3 : as.length < 20) (ho : PE X x (tE G (evE C o) W)) (hc : chkL M X.N sc es as = true) (ha : PA X as (tL G (evL C es) W)) :
    PE X (.Call (.Attribute x n ap) as [] pos) (tE G (evE C (.bm b o es)) W) := by
  subst hn
  cases as with
  | nil =>
    obtain rfl := chkL_nil hc
    cases b <;> first | (cases hb; done) | skip
    · exact (pe_bm0 PySem.F.plainAttrs_list PySem.F.slot_list_append PySem.F.type_list_append append_ok ho (base_of h1) h2).dimp fun σ H Q p => bm_fin0 (by simp) hK p
    · exact s_clear hK h1 h2 ho
    · exact (pe_bm0 PySem.F.plainAttrs_list PySem.F.slot_list_reverse PySem.F.type_list_reverse reverse_ok ho (base_of h1) h2).dimp fun σ H Q p => bm_fin0 (by simp) hK p
  | cons a r =>
    have hst : starEach (a :: r) X.env = (false, eval a X.env) :: starEach r X.env := by
      cases es with
      | nil => unfold chkL at hc; cases hc
      | cons e es =>
        unfold chkL at hc
        rw [Bool.and_eq_true] at hc
        exact star_of hc.1
    have hpl : (backTo pos (starEach r X.env)).any (·.1) = false := by
      cases es with
      | nil => unfold chkL at hc; cases hc
      | cons e es =>
        unfold chkL at hc
        rw [Bool.and_eq_true] at hc
        exact nostar_of hc.2
    cases b <;> first | (cases hb; done) | skip
    · exact (pe_bm PySem.F.plainAttrs_list PySem.F.slot_list_append PySem.F.type_list_append append_ok ho ha (base_of h1) (few_of hc h3) h2 hst hpl).dimp fun σ H Q p => bm_fin (by simp) hK p
    · cases hb0 rfl
    · exact (pe_bm PySem.F.plainAttrs_list PySem.F.slot_list_reverse PySem.F.type_list_reverse reverse_ok ho ha (base_of h1) (few_of hc h3) h2 hst hpl).dimp fun σ H Q p => bm_fin (by simp) hK p
end
end Dl
set_option Elab.async false
set_option linter.all false
set_option maxRecDepth 100000
set_option maxHeartbeats 4000000
/-! Every expression of the small language, as the machine runs it. -/
namespace Dl
open PySem PySem.Spec PyProof.Rows L2
section
variable {X : Cx} {G : Gd} {W : WX} {pos : Pos}
theorem t_cmp2 {C : Cfg} {o o' : Cop} {a b c : Ex} {x y z : Expr} (hK : G.K = X.K) (hg : C.gl = G.gl) (hu : X.A.units + 64 < cLine) (ha : PE X x (tE G (evE C a) W)) (hb : PE X y (tE G (evE C b) W)) (hc : PE X z (tE G (evE C c) W))
    (hm : lastMarks [o.py, o'.py] [y, z] = false) : PT X (.Compare x [o.py, o'.py] [y, z] pos) (tT G (evE C (.cmp2 o o' a b c)) W) :=
  (pt_chain (cmp_ok hK hu o) (cmp_ok hK hu o') ha hb hc hm).dimp fun σ H Q ⟨j, s, h, S, L, p⟩ => by
    unfold evE tru1 at p
    dsimp only at p
    refine ⟨j, s, h, S, L, ?_⟩
    cases q : evE C a s h with
    | bad => rw [q] at p; exact False.elim p
    | exc c fs h1 => rw [q] at p; exact p
    | ok v h1 =>
      rw [q] at p
      refine fun j1 H1 x ex S1 r1 => ⟨j1, s, h1, S1, L.mono ex, ?_⟩
      have p1 := p.mono ex
      dsimp only [R.bind] at p1
      cases q2 : evE C b s h1 with
      | bad => rw [q2] at p1; exact False.elim p1
      | exc c fs h1 => rw [q2] at p1; exact p1
      | ok w h2 =>
        rw [q2] at p1
        refine fun j2 H2 y ex2 S2 r2 => ?_
        have p2 := p1.mono ex2
        rw [hg] at p2
        dsimp only at p2
        cases e : cmpo G.gl o h2 v w with
        | none => rw [e] at p2; exact False.elim p2
        | some d =>
          rw [e] at p2
          cases d with
          | false =>
            refine ⟨j2, h2, v, w, false, S2, r1.mono ex2, r2, e, fun H3 ex3 S3 => ⟨false, rfl, ?_⟩⟩
            rw [if_neg (by decide)]
            obtain ⟨b, eb, q⟩ := p2 _ _ _ ex3 S3 (.bl false)
            cases eb
            exact ⟨false, rfl, q⟩
          | true =>
            refine ⟨j2, h2, v, w, true, S2, r1.mono ex2, r2, e, fun H3 ex3 S3 => ⟨true, rfl, ?_⟩⟩
            rw [if_pos rfl]
            have p3 := p2.mono ex3
            refine ⟨j2, s, h2, S3, ((L.mono ex).mono ex2).mono ex3, ?_⟩
            dsimp only at p3
            cases q3 : evE C c s h2 with
            | bad => rw [q3] at p3; exact False.elim p3
            | exc c fs h1 => rw [q3] at p3; exact p3
            | ok u h4 =>
              rw [q3] at p3
              refine fun j4 H4 z ex4 S4 r4 => ?_
              have p4 := p3.mono ex4
              dsimp only at p4
              cases e2 : cmpo G.gl o' h4 w u with
              | none => rw [e2] at p4; exact False.elim p4
              | some d =>
                rw [e2] at p4
                refine ⟨j4, h4, w, u, d, S4, (r2.mono ex3).mono ex4, r4, e2, fun H' ex5 S5 => ?_⟩
                obtain ⟨b, eb, q⟩ := p4 _ _ _ ex5 S5 (.bl d)
                cases eb
                exact ⟨d, rfl, q⟩
theorem t_ife {C : Cfg} {c a b : Ex} {x y z : Expr} (hc : PT X x (tT G (evE C c) W)) (ha : PT X y (tT G (evE C a) W)) (hb : PT X z (tT G (evE C b) W)) : PT X (.IfExp x y z pos) (tT G (evE C (.ife c a b)) W) := by
  refine ⟨fun pins s σ H Q I ⟨j, sl, h, S, L, p⟩ => ?_⟩
  show wpAny _ _ (do if ← isTrue x X.env (eval x X.env) then isTrue y X.env (eval y X.env) else isTrue z X.env (eval z X.env)) _ _ s
  unfold evE tru1 at p
  dsimp only at p
  refine wpAny_bind (thn (hc.run pins s σ H (fun d H1 => ∃ j1 h1, Sto G j1 h1 H1 ∧ Slo G j1 H1 sl σ ∧ PostE G j1 H1 (tru1 (if d = true then evE C a sl h1 else evE C b sl h1)) (fun x H' => ∃ b, x = .bl b ∧ Q b H') (fun c d H' => W c d σ H')) I ⟨j, sl, h, S, L, ?_⟩) fun d s1 ⟨H1, I1, j1, h1, S1, L1, p1⟩ => ?_)
  · unfold tru1
    dsimp only
    cases q : evE C c sl h with
    | bad => rw [q] at p; exact False.elim p
    | exc c fs h1 => rw [q] at p; exact p
    | ok v h1 =>
      rw [q] at p
      dsimp only [R.bind] at p ⊢
      cases t : truthy h1 v with
      | none => rw [t] at p; exact p.elim
      | some d =>
        rw [t] at p
        refine fun j1 H1 x ex S1 r1 => ⟨d, r1.blE, j1, h1, S1, L.mono ex, ?_⟩
        cases d with
        | true => rw [if_pos rfl]; exact p.mono ex
        | false => rw [if_neg (by decide)]; exact p.mono ex
  · cases d with
    | true => exact ha.run pins s1 σ H1 Q I1 ⟨j1, sl, h1, S1, L1, p1⟩
    | false => exact hb.run pins s1 σ H1 Q I1 ⟨j1, sl, h1, S1, L1, p1⟩
theorem takesNo : Takes X Wno := fun _ _ x => by
  obtain ⟨_, _, _, _, _, _, _, _, _, _, _, _, _, _, _, _, z⟩ := x
  exact z.elim
theorem Cn.blk {D : Dt} {k : Nat} (c : Cn D X k W) {s : Shared} {H : Hp} {scope : Scope} (hk : scope.kind = .function) {cl : List (Str × Addr)} {C : Addr} {fp : List Addr} : Cn D (X.blk s H scope (compEnvC scope cl C X.env) fp) k Wno where
  calm := c.calm
  nd := c.nd
  kd := hk
  rm := c.rm
  tk := takesNo
  po := PassesOwn.never
  fx := c.fx
end
theorem nm_mem (b : Bi) : b.nm ∈ biNames := by
  cases b <;> first | (show ("isinstance" : Str) ∈ biNames; decide +kernel) | decide +kernel
theorem ns_mem (t : Tyk) : t.ns ∈ biNames := by cases t <;> decide +kernel
theorem okN_1 {x : Str} (h : okN x = true) : (x == ("__debug__" : Str)) = false := by
  unfold okN at h
  simp only [Bool.and_eq_true, Bool.not_eq_true'] at h
  exact h.1.1
theorem okN_2 {x : Str} (h : okN x = true) : (x == ("__classdict__" : Str)) = false := by
  unfold okN at h
  simp only [Bool.and_eq_true, Bool.not_eq_true'] at h
  exact h.1.2
theorem plainIx_of {q : Expr} (h : notSl q = true) : PlainIx q := by
  cases q <;> first | (cases h; done) | exact fun _ _ => rfl
theorem marks_of {M : Nm} {N : List Str} {sc : Scope} {e : Ex} {q : Expr} {op : CmpOp} (h : chkE M N sc e q = true) : behindInMarks op q = false := by
  cases q <;> first | rfl | skip
  cases e <;> (unfold chkE at h; cases h)
theorem stars_of {M : Nm} {N : List Str} {sc : Scope} {env : Env} {pos : Pos} {es : List Ex} {a : Expr} {as : List Expr} (h : chkL M N sc es (a :: as) = true) : starEach (a :: as) env = (false, eval a env) :: starEach as env ∧ (backTo pos (starEach as env)).any (·.1) = false := by
  cases es with
  | nil => unfold chkL at h; cases h
  | cons e es =>
    unfold chkL at h
    rw [Bool.and_eq_true] at h
    exact ⟨star_of h.1, nostar_of h.2⟩
theorem fold_of {M : Nm} {N : List Str} {sc : Scope} {env : Env} {e : Ex} {a : Expr} (h : chkE M N sc e a = true) : ∀ x, foldedSetIterable a env x = pure x := by
  cases a <;> first | exact fun _ => rfl | skip
  cases e <;> (unfold chkE at h; cases h)
theorem rng_of {X : Cx} {G : Gd} {C : Cfg} {W : WX} {M : Nm} {sc : Scope} {es : List Ex} {as : List Expr} {p pos : Pos} {tg : Expr} (hg : Gl X "range") (hm : X.mg "range" = none) (h : chkL M X.N sc es as = true) (hl : (as.length == 1 || as.length == 2) = true) (ha : PA X as (tL G (evL C es) W)) :
    PI X tg (.Call (.Name "range" p) as [] pos) (tRg G (evL C es) W) := by
  have hl2 := chkL_len h
  cases as with
  | nil => cases hl
  | cons a as =>
    cases es with
    | nil => cases hl2
    | cons e es =>
      obtain ⟨s1, _⟩ := stars_of (pos := pos) (env := X.env) h
      unfold chkL at h
      rw [Bool.and_eq_true] at h
      cases as with
      | nil =>
        cases es with
        | nil => exact s_rng1 hg hm ha s1
        | cons _ _ => cases hl2
      | cons b as =>
        cases es with
        | nil => cases hl2
        | cons f es =>
          obtain ⟨s2, _⟩ := stars_of (pos := pos) (env := X.env) h.2
          cases as with
          | nil =>
            cases es with
            | nil => exact s_rng2 hg hm ha (s1.trans (by rw [s2]; rfl)) s2
            | cons _ _ => cases hl2
          | cons _ _ => cases hl
theorem s_dl {X : Cx} {G : Gd} {C : Cfg} {W : WX} {b : Bm} {o : Ex} {p : Expr} {n : Str} {ap cp q pos : Pos} (hK : G.K = X.K) (hc : X.calm = true) (hg : Gl X "list") (hm : X.mg "list" = none) (hb : b.dlk = true) (hn : n = b.nm) (h1 : plainO p = true) (h2 : (ap.endLine == cp.line) = true) (ho : PE X p (tE G (evE C o) W)) :
    PE X (.Call (.Name "list" q) [.Call (.Attribute p n ap) [] [] cp] [] pos) (tE G (evE C (.dl b o)) W) := by
  subst hn
  cases b <;> first | (cases hb; done) | skip
  have inner := pe_bm0 (cpos := cp) PySem.F.plainAttrs_dict PySem.F.slot_dict_items PySem.F.type_dict_items mt_items2 ho (base_of h1) h2
  refine (pe_callTy (cr_listItems (G := G) hc) hg hm (by decide +kernel) (pa_cons inner pa_nil) (by decide) (by decide)).dimp fun σ H Q ⟨j, s, h, S, L, p⟩ => ?_
  unfold evE at p
  refine ⟨j, s, h, S, L, PostE.bind p fun j1 H1 h1 v1 x ex S1 r1 p1 => ?_⟩
  unfold dlf at p1
  cases v1 <;> first | exact False.elim p1 | skip
  rename_i n
  obtain ⟨a, rfl, ea⟩ := r1.refA
  dsimp only at p1
  cases hn : h1[n]? with
  | none => rw [hn] at p1; exact False.elim p1
  | some ob =>
    rw [hn] at p1
    cases ob with
    | dct l =>
      have fin : ∀ q, H1 q = none → rListI G [.ref q] (upd H1 q (L2.DX.itemsO q a)) Q := fun q hq => ⟨q, a, n, l, j1, h1, _, rfl, upd_same, S1.laid hq, ea, hn, PostE.mono p1 (Ext.laid q _ hq)⟩
      rcases S1.ob n a _ ea hn with ⟨ks, e1, _⟩ | ⟨ks, e1, _⟩
      · exact ⟨.inr (.inr (.inl ⟨rfl, .inl ⟨ks, e1⟩⟩)), a, rfl, rfl, .inl ⟨ks, e1⟩, fin⟩
      · exact ⟨.inr (.inr (.inl ⟨rfl, .inr ⟨ks, e1⟩⟩)), a, rfl, rfl, .inr ⟨ks, e1⟩, fin⟩
    | lst l => exact False.elim p1
    | ins c fs => exact False.elim p1
section
variable {D : Dt} {k : Nat}
mutual
theorem sndE : ∀ (e : Ex) (a : Expr) {X : Cx} {W : WX} {sc : Scope}, Cn D X k W → Ag X sc → chkE D.M X.N sc e a = true → PE X a (tE (D.G X.K none) (evE (D.cfg k) e) W)
  | .v i, a, X, W, sc, c, ag, h => by
    unfold chkE at h
    split at h <;> first | (cases h; done) | skip
    simp only [Bool.and_eq_true, decide_eq_true_eq] at h
    exact s_v h.1.1 (ag.vis _ h.1.2) (okN_1 h.2) (okN_2 h.2)
  | .k v, a, X, W, sc, c, ag, h => by
    unfold chkE at h
    split at h <;> first | (cases h; done) | skip
    exact s_k h
  | .g i, a, X, W, sc, c, ag, h => by
    unfold chkE at h
    split at h <;> first | (cases h; done) | skip
    simp only [Bool.and_eq_true, decide_eq_true_eq] at h
    cases hv : D.P.gl[i]? with
    | none => exact s_never fun s h => by unfold evE; show (match D.P.gl[i]? with | some v => R.ok v h | none => .bad) = _; rw [hv]
    | some v =>
      obtain ⟨u, y, h1, h2, h3⟩ := c.fx.gl i _ v h.1.1 hv
      exact s_g (ag.gli _ h.1.2) h1 h2 hv (h3 none) (okN_1 h.2)
  | .tup es, a, X, W, sc, c, ag, h => by
    unfold chkE at h
    split at h <;> first | (cases h; done) | skip
    simp only [Bool.and_eq_true, decide_eq_true_eq] at h
    exact s_tup (sndL es _ c ag h.1) (by rw [chkL_len h.1]; exact h.2)
  | .lst es, a, X, W, sc, c, ag, h => by
    unfold chkE at h
    split at h <;> first | (cases h; done) | skip
    simp only [Bool.and_eq_true, decide_eq_true_eq] at h
    exact s_lst (sndL es _ c ag h.1) (by rw [chkL_len h.1]; exact h.2)
  | .dct0, a, X, W, sc, c, ag, h => by
    unfold chkE at h
    split at h <;> first | (cases h; done) | skip
    exact s_dct0
  | .bin o x y, a, X, W, sc, c, ag, h => by
    unfold chkE at h
    split at h <;> first | (cases h; done) | skip
    simp only [Bool.and_eq_true, decide_eq_true_eq] at h
    obtain ⟨⟨h1, h2⟩, h3⟩ := h
    subst h1
    exact s_bin rfl (sndE x _ c ag h2) (sndE y _ c ag h3)
  | .neg x, a, X, W, sc, c, ag, h => by
    unfold chkE at h
    split at h <;> first | (cases h; done) | skip
    exact s_neg (sndE x _ c ag h)
  | .nt x, a, X, W, sc, c, ag, h => by
    unfold chkE at h
    split at h <;> first | (cases h; done) | skip
    exact s_nt rfl (sndE x _ c ag h)
  | .an es, a, X, W, sc, c, ag, h => by
    unfold chkE at h
    split at h <;> first | (cases h; done) | skip
    have z : (fun s h => evE (D.cfg k) (.an es) s h) = fun s h => evA (D.cfg k) es s h := by funext s h; unfold evE; rfl
    show PE X _ (tE _ (fun s h => evE (D.cfg k) (.an es) s h) W)
    rw [z]
    exact sndAn es _ c ag h _
  | .or es, a, X, W, sc, c, ag, h => by
    unfold chkE at h
    split at h <;> first | (cases h; done) | skip
    have z : (fun s h => evE (D.cfg k) (.or es) s h) = fun s h => evO (D.cfg k) es s h := by funext s h; unfold evE; rfl
    show PE X _ (tE _ (fun s h => evE (D.cfg k) (.or es) s h) W)
    rw [z]
    exact sndOr es _ c ag h _
  | .cmp o x y, a, X, W, sc, c, ag, h => by
    unfold chkE at h
    split at h <;> first | (cases h; done) | skip
    simp only [Bool.and_eq_true, decide_eq_true_eq] at h
    obtain ⟨⟨h1, h2⟩, h3⟩ := h
    subst h1
    exact s_cmp rfl rfl (by have := c.rm.un; omega) (marks_of h3) (sndE x _ c ag h2) (sndE y _ c ag h3)
  | .cmp2 o o' x y z, a, X, W, sc, c, ag, h => by
    unfold chkE at h
    split at h <;> first | (cases h; done) | skip
    simp only [Bool.and_eq_true, decide_eq_true_eq] at h
    obtain ⟨⟨⟨⟨h0, h1⟩, h2⟩, h3⟩, h4⟩ := h
    subst h0 h1
    exact s_cmp2 rfl rfl (by have := c.rm.un; omega) (sndE x _ c ag h2) (sndE y _ c ag h3) (sndE z _ c ag h4) (by unfold lastMarks lastMarks; exact marks_of h4)
  | .call f es, a, X, W, sc, c, ag, h => by
    unfold chkE at h
    split at h <;> first | (cases h; done) | skip
    rename_i x p as pos
    simp only [Bool.and_eq_true, decide_eq_true_eq] at h
    obtain ⟨⟨⟨⟨⟨h1, h0⟩, h2⟩, h3⟩, h4⟩, h5⟩ := h
    obtain ⟨d, hd, m1, m2⟩ := c.fx.fn f x h1 h0
    cases as with
    | nil => exact absurd rfl h4
    | cons b r =>
      obtain ⟨s1, s2⟩ := stars_of (pos := pos) (env := X.env) h5
      exact s_call c hd m1 m2 (ag.gli _ h2) (okN_1 h3) (sndL es _ c ag h5) s1 s2
  | .mk cn es, a, X, W, sc, c, ag, h => by
    unfold chkE at h
    split at h <;> first | (cases h; done) | skip
    rename_i x p as pos
    simp only [Bool.and_eq_true, decide_eq_true_eq] at h
    obtain ⟨⟨⟨⟨h1, h2⟩, h3⟩, h4⟩, h5⟩ := h
    obtain ⟨d, f, df, C, m1, m2, m3, m4, m5, m6⟩ := c.fx.mkC cn x h1 h2
    exact s_mk c m1 m2 m3 m4 m6 m5 (ag.gli _ h3) (okN_1 h4) (sndL es _ c ag h5) (fun z => by subst z; exact chkL_nil h5) fun b r z => by subst z; exact stars_of h5
  | .meth m o es, a, X, W, sc, c, ag, h => by
    unfold chkE at h
    split at h <;> first | (cases h; done) | skip
    rename_i p n ap as pos
    simp only [Bool.and_eq_true, decide_eq_true_eq] at h
    obtain ⟨⟨⟨⟨⟨h1, h2⟩, h3⟩, h4⟩, h5⟩, h6⟩ := h
    exact s_meth c h1 (sndE o _ c ag h5) (sndL es _ c ag h6) (fun z => by subst z; exact chkL_nil h6) (fun b r z => by subst z; exact stars_of h6) (meth_eval h2 h3 h4 (nostar_of h6))
  | .bi b es, a, X, W, sc, c, ag, h => by
    unfold chkE at h
    split at h <;> first | (cases h; done) | skip
    rename_i x p as pos
    simp only [Bool.and_eq_true, decide_eq_true_eq] at h
    obtain ⟨⟨h1, h2⟩, h3⟩ := h
    split at h3
    · rename_i t
      split at h3 <;> first | (cases h3; done) | skip
      rename_i e
      split at h3 <;> first | (cases h3; done) | skip
      rename_i q y py
      simp only [Bool.and_eq_true, decide_eq_true_eq] at h3
      obtain ⟨⟨h4, h5⟩, h6⟩ := h3
      subst h1 h5
      exact s_isi rfl (ag.gli _ h2) (c.fx.bi _ (nm_mem (.isi t))) (ag.gli _ h6) (c.fx.bi _ (ns_mem t)) (sndE e _ c ag h4) (star_of h4)
    · rename_i nb
      simp only [Bool.and_eq_true, decide_eq_true_eq] at h3
      cases as with
      | nil => exact absurd rfl h3.1
      | cons b' r =>
        obtain ⟨s1, s2⟩ := stars_of (pos := pos) (env := X.env) h3.2
        exact s_bi rfl rfl c.calm (by have := c.rm.un; omega) (fun t z => nb t z) h1 (ag.gli _ h2) (h1 ▸ c.fx.bi _ (nm_mem b)) (sndL es _ c ag h3.2) s1 s2
  | .bm b o es, a, X, W, sc, c, ag, h => by
    unfold chkE at h
    split at h <;> first | (cases h; done) | skip
    rename_i p n ap as pos
    simp only [Bool.and_eq_true, decide_eq_true_eq] at h
    obtain ⟨⟨⟨⟨⟨⟨⟨h0, h7⟩, h1⟩, h2⟩, h3⟩, h4⟩, h5⟩, h6⟩ := h
    exact s_bm rfl h0 (fun z => by
      rw [Bool.or_eq_true, decide_eq_true_eq] at h7
      exact List.isEmpty_iff.mp (h7.resolve_left fun w => w z)) h1 h2 h3 h4 (sndE o _ c ag h5) h6 (sndL es _ c ag h6)
  | .fld o f, a, X, W, sc, c, ag, h => by
    unfold chkE at h
    split at h <;> first | (cases h; done) | skip
    simp only [Bool.and_eq_true, decide_eq_true_eq] at h
    obtain ⟨⟨h1, h2⟩, h3⟩ := h
    exact s_fld rfl c.fx.nf h1 rfl (base_of h2) (sndE o _ c ag h3)
  | .ix x y, a, X, W, sc, c, ag, h => by
    unfold chkE at h
    split at h <;> first | (cases h; done) | skip
    simp only [Bool.and_eq_true, decide_eq_true_eq] at h
    obtain ⟨⟨h1, h2⟩, h3⟩ := h
    exact s_ix rfl rfl (by have := c.rm.un; omega) (plainIx_of h1) (sndE x _ c ag h2) (sndE y _ c ag h3)
  | .sl x lo hi, a, X, W, sc, c, ag, h => by
    unfold chkE at h
    split at h <;> first | (cases h; done) | skip
    simp only [Bool.and_eq_true, decide_eq_true_eq] at h
    obtain ⟨⟨h1, h2⟩, h3⟩ := h
    exact s_sl rfl (sndE x _ c ag h1) (sndO lo _ c ag h2) (sndO hi _ c ag h3)
  | .ife x y z, a, X, W, sc, c, ag, h => by
    unfold chkE at h
    split at h <;> first | (cases h; done) | skip
    simp only [Bool.and_eq_true, decide_eq_true_eq] at h
    obtain ⟨⟨h1, h2⟩, h3⟩ := h
    exact s_ife (sndP x _ c ag h1) (sndE y _ c ag h2) (sndE z _ c ag h3)
  | .comp elt t it cond own, a, X, W, sc, c, ag, h => by
    unfold chkE at h
    split at h <;> first | (cases h; done) | skip
    rename_i elt' tg iter ifs scope pos
    simp only [Bool.and_eq_true, List.all_eq_true, decide_eq_true_eq] at h
    obtain ⟨⟨⟨⟨⟨h1, h2⟩, h3⟩, h4⟩, h5⟩, h6⟩ := h
    obtain ⟨own', o1, o2⟩ := blk_ok h1
    have z := pe_lc (elt := elt') (tg := tg) (iter := iter) (ifs := ifs) (scope := scope) (own := own') (pos := pos) (g := gA (D.G X.K none) t) (tt := tC (D.G X.K none) (D.cfg k) cond) (te := tE (D.G X.K none) (evE (D.cfg k) elt) Wno) c.calm c.nd (s_iter (G := D.G X.K none) rfl (sndE it iter c ag h4)) (BlkOk.sc o2 ag.cap) (fun s H C cl fp => sndT (X := X.blk s H scope (compEnvC scope cl C X.env) fp) (G := D.G X.K none) rfl c.calm c.nd ag_blk t tg h3)
      (fun s H C cl fp => by
        split at h6
        · split at h6
          · exact c_none
          · cases h6
        · split at h6
          · rename_i d
            exact c_some (sndP d _ (c.blk (s := s) (H := H) (C := C) (cl := cl) (fp := fp) (scope := scope) o2.kind) ag_blk h6)
          · cases h6
        · cases h6) (fun s H C cl fp => sndE elt elt' (c.blk (s := s) (H := H) (C := C) (cl := cl) (fp := fp) (scope := scope) o2.kind) ag_blk h5) (fold_of h4)
    rw [o1] at z
    exact z.dimp fun σ H Q p => comp_dimp h2 p
  | .compR elt t es cond own, a, X, W, sc, c, ag, h => by
    unfold chkE at h
    split at h <;> first | (cases h; done) | skip
    rename_i elt' tg x p as ap ifs scope pos
    simp only [Bool.and_eq_true, List.all_eq_true, decide_eq_true_eq] at h
    obtain ⟨⟨⟨⟨⟨⟨⟨⟨h1, h2⟩, h3⟩, h4⟩, h5⟩, h6⟩, h7⟩, h8⟩, h9⟩ := h
    subst h1
    obtain ⟨own', o1, o2⟩ := blk_ok h5
    have z := pe_lc (elt := elt') (tg := tg) (ifs := ifs) (scope := scope) (own := own') (pos := pos) (g := gA (D.G X.K none) t) (tt := tC (D.G X.K none) (D.cfg k) cond) (te := tE (D.G X.K none) (evE (D.cfg k) elt) Wno) c.calm c.nd (rng_of (p := p) (pos := ap) (tg := tg) (ag.gli _ h2) (c.fx.bi _ (by decide +kernel)) h3 h4 (sndL es as c ag h3)) (BlkOk.sc o2 ag.cap) (fun s H C cl fp => sndT (X := X.blk s H scope (compEnvC scope cl C X.env) fp) (G := D.G X.K none) rfl c.calm c.nd ag_blk t tg h7)
      (fun s H C cl fp => by
        split at h9
        · split at h9
          · exact c_none
          · cases h9
        · split at h9
          · rename_i d
            exact c_some (sndP d _ (c.blk (s := s) (H := H) (C := C) (cl := cl) (fp := fp) (scope := scope) o2.kind) ag_blk h9)
          · cases h9
        · cases h9) (fun s H C cl fp => sndE elt elt' (c.blk (s := s) (H := H) (C := C) (cl := cl) (fp := fp) (scope := scope) o2.kind) ag_blk h8) (fun _ => rfl)
    rw [o1] at z
    exact z.dimp fun σ H Q p => compR_dimp h6 p
  | .isx x cl, a, X, W, sc, c, ag, h => by
    unfold chkE at h
    cases h
  | .dl b o, a, X, W, sc, c, ag, h => by
    unfold chkE at h
    split at h <;> first | (cases h; done) | skip
    simp only [Bool.and_eq_true, decide_eq_true_eq] at h
    obtain ⟨⟨⟨⟨⟨⟨h1, h2⟩, h3⟩, h4⟩, h5⟩, h6⟩, h7⟩ := h
    subst h1
    exact s_dl rfl c.calm (ag.gli _ h2) (c.fx.bi _ (by decide +kernel)) h3 h4 h5 h6 (sndE o _ c ag h7)
theorem sndO : ∀ (o : Option Ex) (x : Option Expr) {X : Cx} {W : WX} {sc : Scope}, Cn D X k W → Ag X sc → chkO D.M X.N sc o x = true → PO X x (tP (D.G X.K none) (D.cfg k) o W)
  | none, x, X, W, sc, c, ag, h => by
    cases x with
    | none => exact s_pn
    | some a => unfold chkO at h; cases h
  | some e, x, X, W, sc, c, ag, h => by
    cases x with
    | none => unfold chkO at h; cases h
    | some a =>
      unfold chkO at h
      exact s_ps (sndE e a c ag h)
theorem sndP : ∀ (e : Ex) (a : Expr) {X : Cx} {W : WX} {sc : Scope}, Cn D X k W → Ag X sc → chkE D.M X.N sc e a = true → PT X a (tT (D.G X.K none) (evE (D.cfg k) e) W)
  | .nt x, a, X, W, sc, c, ag, h => by
    unfold chkE at h
    split at h <;> first | (cases h; done) | skip
    exact t_not (sndP x _ c ag h)
  | .an es, a, X, W, sc, c, ag, h => by
    unfold chkE at h
    split at h <;> first | (cases h; done) | skip
    have z : (fun s h => evE (D.cfg k) (.an es) s h) = fun s h => evA (D.cfg k) es s h := by funext s h; unfold evE; rfl
    show PT X _ (tT _ (fun s h => evE (D.cfg k) (.an es) s h) W)
    rw [z]
    exact (sndWa es _ c ag h _).pt
  | .or es, a, X, W, sc, c, ag, h => by
    unfold chkE at h
    split at h <;> first | (cases h; done) | skip
    have z : (fun s h => evE (D.cfg k) (.or es) s h) = fun s h => evO (D.cfg k) es s h := by funext s h; unfold evE; rfl
    show PT X _ (tT _ (fun s h => evE (D.cfg k) (.or es) s h) W)
    rw [z]
    exact (sndWo es _ c ag h _).pt
  | .cmp o x y, a, X, W, sc, c, ag, h => by
    unfold chkE at h
    split at h <;> first | (cases h; done) | skip
    simp only [Bool.and_eq_true, decide_eq_true_eq] at h
    obtain ⟨⟨h1, h2⟩, h3⟩ := h
    subst h1
    exact t_cmp rfl rfl (by have := c.rm.un; omega) (marks_of h3) (sndE x _ c ag h2) (sndE y _ c ag h3)
  | .cmp2 o o' x y z, a, X, W, sc, c, ag, h => by
    unfold chkE at h
    split at h <;> first | (cases h; done) | skip
    simp only [Bool.and_eq_true, decide_eq_true_eq] at h
    obtain ⟨⟨⟨⟨h0, h1⟩, h2⟩, h3⟩, h4⟩ := h
    subst h0 h1
    exact t_cmp2 rfl rfl (by have := c.rm.un; omega) (sndE x _ c ag h2) (sndE y _ c ag h3) (sndE z _ c ag h4) (by unfold lastMarks lastMarks; exact marks_of h4)
  | .ife x y z, a, X, W, sc, c, ag, h => by
    unfold chkE at h
    split at h <;> first | (cases h; done) | skip
    simp only [Bool.and_eq_true, decide_eq_true_eq] at h
    obtain ⟨⟨h1, h2⟩, h3⟩ := h
    exact t_ife (sndP x _ c ag h1) (sndP y _ c ag h2) (sndP z _ c ag h3)
  | .v i, a, X, W, sc, c, ag, h => by
    have z := sndE (.v i) a c ag h
    unfold chkE at h
    split at h <;> first | (cases h; done) | exact t_val rfl z (fun _ => rfl)
  | .k v, a, X, W, sc, c, ag, h => by
    have z := sndE (.k v) a c ag h
    unfold chkE at h
    split at h <;> first | (cases h; done) | exact t_val rfl z (fun _ => rfl)
  | .g i, a, X, W, sc, c, ag, h => by
    have z := sndE (.g i) a c ag h
    unfold chkE at h
    split at h <;> first | (cases h; done) | exact t_val rfl z (fun _ => rfl)
  | .tup es, a, X, W, sc, c, ag, h => by
    have z := sndE (.tup es) a c ag h
    unfold chkE at h
    split at h <;> first | (cases h; done) | exact t_val rfl z (fun _ => rfl)
  | .lst es, a, X, W, sc, c, ag, h => by
    have z := sndE (.lst es) a c ag h
    unfold chkE at h
    split at h <;> first | (cases h; done) | exact t_val rfl z (fun _ => rfl)
  | .dct0, a, X, W, sc, c, ag, h => by
    have z := sndE (.dct0) a c ag h
    unfold chkE at h
    split at h <;> first | (cases h; done) | exact t_val rfl z (fun _ => rfl)
  | .bin o x y, a, X, W, sc, c, ag, h => by
    have z := sndE (.bin o x y) a c ag h
    unfold chkE at h
    split at h <;> first | (cases h; done) | exact t_val rfl z (fun _ => rfl)
  | .neg x, a, X, W, sc, c, ag, h => by
    have z := sndE (.neg x) a c ag h
    unfold chkE at h
    split at h <;> first | (cases h; done) | exact t_val rfl z (fun _ => rfl)
  | .call f es, a, X, W, sc, c, ag, h => by
    have z := sndE (.call f es) a c ag h
    unfold chkE at h
    split at h <;> first | (cases h; done) | exact t_val rfl z (fun _ => rfl)
  | .mk f es, a, X, W, sc, c, ag, h => by
    have z := sndE (.mk f es) a c ag h
    unfold chkE at h
    split at h <;> first | (cases h; done) | exact t_val rfl z (fun _ => rfl)
  | .meth m o es, a, X, W, sc, c, ag, h => by
    have z := sndE (.meth m o es) a c ag h
    unfold chkE at h
    split at h <;> first | (cases h; done) | exact t_val rfl z (fun _ => rfl)
  | .bi b es, a, X, W, sc, c, ag, h => by
    have z := sndE (.bi b es) a c ag h
    unfold chkE at h
    split at h <;> first | (cases h; done) | exact t_val rfl z (fun _ => rfl)
  | .bm b o es, a, X, W, sc, c, ag, h => by
    have z := sndE (.bm b o es) a c ag h
    unfold chkE at h
    split at h <;> first | (cases h; done) | exact t_val rfl z (fun _ => rfl)
  | .fld o f, a, X, W, sc, c, ag, h => by
    have z := sndE (.fld o f) a c ag h
    unfold chkE at h
    split at h <;> first | (cases h; done) | exact t_val rfl z (fun _ => rfl)
  | .ix x y, a, X, W, sc, c, ag, h => by
    have z := sndE (.ix x y) a c ag h
    unfold chkE at h
    split at h <;> first | (cases h; done) | exact t_val rfl z (fun _ => rfl)
  | .sl x lo hi, a, X, W, sc, c, ag, h => by
    have z := sndE (.sl x lo hi) a c ag h
    unfold chkE at h
    split at h <;> first | (cases h; done) | exact t_val rfl z (fun _ => rfl)
  | .comp elt t it cond own, a, X, W, sc, c, ag, h => by
    have z := sndE (.comp elt t it cond own) a c ag h
    unfold chkE at h
    split at h <;> first | (cases h; done) | exact t_val rfl z (fun _ => rfl)
  | .compR elt t es cond own, a, X, W, sc, c, ag, h => by
    have z := sndE (.compR elt t es cond own) a c ag h
    unfold chkE at h
    split at h <;> first | (cases h; done) | exact t_val rfl z (fun _ => rfl)
  | .isx x cl, a, X, W, sc, c, ag, h => by
    unfold chkE at h
    cases h
  | .dl b o, a, X, W, sc, c, ag, h => by
    have z := sndE (.dl b o) a c ag h
    unfold chkE at h
    split at h <;> first | (cases h; done) | exact t_val rfl z (fun _ => rfl)
theorem sndL : ∀ (es : List Ex) (as : List Expr) {X : Cx} {W : WX} {sc : Scope}, Cn D X k W → Ag X sc → chkL D.M X.N sc es as = true → PA X as (tL (D.G X.K none) (evL (D.cfg k) es) W)
  | [], as, X, W, sc, c, ag, h => by
    cases as with
    | nil => exact s_nil
    | cons a as => unfold chkL at h; cases h
  | e :: es, as, X, W, sc, c, ag, h => by
    cases as with
    | nil => unfold chkL at h; cases h
    | cons a as =>
      unfold chkL at h
      rw [Bool.and_eq_true] at h
      exact s_cons (sndE e a c ag h.1) (sndL es as c ag h.2) (star_of h.1)
theorem sndAn : ∀ (es : List Ex) (as : List Expr) {X : Cx} {W : WX} {sc : Scope}, Cn D X k W → Ag X sc → chkL D.M X.N sc es as = true → ∀ pos, PE X (.BoolOp .And as pos) (tE (D.G X.K none) (evA (D.cfg k) es) W)
  | [], as, X, W, sc, c, ag, h, pos => s_never fun s h => by unfold evA; rfl
  | [e], as, X, W, sc, c, ag, h, pos => by
    cases as with
    | nil => unfold chkL at h; cases h
    | cons a as =>
      unfold chkL at h
      rw [Bool.and_eq_true] at h
      cases as with
      | nil => exact s_an1 (sndE e a c ag h.1)
      | cons b as => unfold chkL at h; exact absurd h.2 (by decide)
  | e :: f :: es, as, X, W, sc, c, ag, h, pos => by
    cases as with
    | nil => unfold chkL at h; cases h
    | cons a as =>
      unfold chkL at h
      rw [Bool.and_eq_true] at h
      cases as with
      | nil => unfold chkL at h; exact absurd h.2 (by decide)
      | cons b as => exact s_an rfl (sndE e a c ag h.1) (sndAn (f :: es) (b :: as) c ag h.2 pos)
theorem sndOr : ∀ (es : List Ex) (as : List Expr) {X : Cx} {W : WX} {sc : Scope}, Cn D X k W → Ag X sc → chkL D.M X.N sc es as = true → ∀ pos, PE X (.BoolOp .Or as pos) (tE (D.G X.K none) (evO (D.cfg k) es) W)
  | [], as, X, W, sc, c, ag, h, pos => s_never fun s h => by unfold evO; rfl
  | [e], as, X, W, sc, c, ag, h, pos => by
    cases as with
    | nil => unfold chkL at h; cases h
    | cons a as =>
      unfold chkL at h
      rw [Bool.and_eq_true] at h
      cases as with
      | nil => exact s_or1 (sndE e a c ag h.1)
      | cons b as => unfold chkL at h; exact absurd h.2 (by decide)
  | e :: f :: es, as, X, W, sc, c, ag, h, pos => by
    cases as with
    | nil => unfold chkL at h; cases h
    | cons a as =>
      unfold chkL at h
      rw [Bool.and_eq_true] at h
      cases as with
      | nil => unfold chkL at h; exact absurd h.2 (by decide)
      | cons b as => exact s_or rfl (sndE e a c ag h.1) (sndOr (f :: es) (b :: as) c ag h.2 pos)
theorem sndWa : ∀ (es : List Ex) (as : List Expr) {X : Cx} {W : WX} {sc : Scope}, Cn D X k W → Ag X sc → chkL D.M X.N sc es as = true → ∀ pos, PW X (.BoolOp .And as pos) (tT (D.G X.K none) (evA (D.cfg k) es) W)
  | [], as, X, W, sc, c, ag, h, pos => ⟨fun wh pins s σ H Q I ⟨j, sl, hh, S, L, q⟩ => by unfold evA tru1 at q; exact False.elim q⟩
  | [e], as, X, W, sc, c, ag, h, pos => by
    cases as with
    | nil => unfold chkL at h; cases h
    | cons a as =>
      unfold chkL at h
      rw [Bool.and_eq_true] at h
      cases as with
      | nil => exact w_an1 (sndP e a c ag h.1)
      | cons b as => unfold chkL at h; exact absurd h.2 (by decide)
  | e :: f :: es, as, X, W, sc, c, ag, h, pos => by
    cases as with
    | nil => unfold chkL at h; cases h
    | cons a as =>
      unfold chkL at h
      rw [Bool.and_eq_true] at h
      cases as with
      | nil => unfold chkL at h; exact absurd h.2 (by decide)
      | cons b as => exact w_an (sndP e a c ag h.1) (sndWa (f :: es) (b :: as) c ag h.2 pos)
theorem sndWo : ∀ (es : List Ex) (as : List Expr) {X : Cx} {W : WX} {sc : Scope}, Cn D X k W → Ag X sc → chkL D.M X.N sc es as = true → ∀ pos, PW X (.BoolOp .Or as pos) (tT (D.G X.K none) (evO (D.cfg k) es) W)
  | [], as, X, W, sc, c, ag, h, pos => ⟨fun wh pins s σ H Q I ⟨j, sl, hh, S, L, q⟩ => by unfold evO tru1 at q; exact False.elim q⟩
  | [e], as, X, W, sc, c, ag, h, pos => by
    cases as with
    | nil => unfold chkL at h; cases h
    | cons a as =>
      unfold chkL at h
      rw [Bool.and_eq_true] at h
      cases as with
      | nil => exact w_or1 (sndP e a c ag h.1)
      | cons b as => unfold chkL at h; exact absurd h.2 (by decide)
  | e :: f :: es, as, X, W, sc, c, ag, h, pos => by
    cases as with
    | nil => unfold chkL at h; cases h
    | cons a as =>
      unfold chkL at h
      rw [Bool.and_eq_true] at h
      cases as with
      | nil => unfold chkL at h; exact absurd h.2 (by decide)
      | cons b as => exact w_or (sndP e a c ag h.1) (sndWo (f :: es) (b :: as) c ag h.2 pos)
end
end
end Dl
set_option Elab.async false
set_option linter.all false
set_option maxRecDepth 100000
set_option maxHeartbeats 4000000
/-! Statements of the small language, as the machine runs them. -/
namespace Dl
open PySem PySem.Spec PyProof.Rows L2
def PostS (G : Gd) (j : List Addr) (H : Hp) (r : Rs) (D : Ends) (W : WX) : Prop :=
  match r with
  | .nx s h => ∀ j' H' σ', Ext j H j' H' → Sto G j' h H' → Slo G j' H' s σ' → D.nx σ' H'
  | .rt v h => ∀ j' H' w, Ext j H j' H' → Sto G j' h H' → RV G j' H' v w → D.rt w H'
  | .exc c fs s h => ∀ j' H' d σ', Ext j H j' H' → Sto G j' h H' → Slo G j' H' s σ' → RX G j' H' fs d → W (G.CV c) d σ' H'
  | .bad => False
def tS (G : Gd) (f : Slots → Store → Rs) (W : WX) : TS := fun D σ H => ∃ j s h, Sto G j h H ∧ Slo G j H s σ ∧ PostS G j H (f s h) D W
theorem _root_.L2.PS.dimp {X : Cx} {e : Stmt} {t t' : TS} (h : PS X e t) (i : ∀ D σ H, t' D σ H → t D σ H) : PS X e t' := ⟨fun pins s σ H D I q => h.run pins s σ H D I (i D σ H q)⟩
theorem _root_.L2.PSs.dimp {X : Cx} {e : List Stmt} {t t' : TS} (h : PSs X e t) (i : ∀ D σ H, t' D σ H → t D σ H) : PSs X e t' := ⟨fun pins s σ H D I q => h.run pins s σ H D I (i D σ H q)⟩
section
variable {X : Cx} {G : Gd} {W : WX} {j j' : List Addr} {H H' : Hp} {h : Store} {D : Ends} {pos : Pos}
theorem PostS.mono {r : Rs} (p : PostS G j H r D W) (e : Ext j H j' H') : PostS G j' H' r D W := by
  cases r with
  | nx s h' => exact fun j2 H2 σ e2 S L => p j2 H2 σ (e.trans e2) S L
  | rt v h' => exact fun j2 H2 w e2 S q => p j2 H2 w (e.trans e2) S q
  | exc c fs s h' => exact fun j2 H2 d σ e2 S L q => p j2 H2 d σ (e.trans e2) S L q
  | bad => exact p
/-- a statement that begins with an expression -/
theorem PostE.thn {r : R} {s : Slots} {f : Va → Store → Rs} {σ : L2.St} (L : Slo G j H s σ) (p : PostS G j H (r.thn s f) D W) {Q1 : VK}
    (k : ∀ j1 H1 h1 v1 x, Ext j H j1 H1 → Sto G j1 h1 H1 → RV G j1 H1 v1 x → PostS G j1 H1 (f v1 h1) D W → Q1 x H1) : PostE G j H r Q1 fun c d H' => W c d σ H' := by
  cases r with
  | ok v h' => exact fun j2 H2 w e S q => k j2 H2 h' v w e S q (PostS.mono p e)
  | exc c fs h' => exact fun j2 H2 d e S q => p j2 H2 d σ e S (L.mono e) q
  | bad => exact p
theorem PostL.thn {r : Rl} {s : Slots} {f : List Va → Store → Rs} {σ : L2.St} (L : Slo G j H s σ) (p : PostS G j H (r.thn s f) D W) {Q1 : List V → Hp → Prop}
    (k : ∀ j1 H1 h1 v1 x, Ext j H j1 H1 → Sto G j1 h1 H1 → RVs G j1 H1 v1 x → PostS G j1 H1 (f v1 h1) D W → Q1 x H1) : PostL G j H r Q1 fun c d H' => W c d σ H' := by
  cases r with
  | ok v h' => exact fun j2 H2 w e S q => k j2 H2 h' v w e S q (PostS.mono p e)
  | exc c fs h' => exact fun j2 H2 d e S q => p j2 H2 d σ e S (L.mono e) q
  | bad => exact p
theorem PostS.nx {s : Slots} {σ : L2.St} (p : PostS G j H (.nx s h) D W) (S : Sto G j h H) (L : Slo G j H s σ) : D.nx σ H := p j H σ .refl S L
theorem b_nil {C : Cfg} : PSs X [] (tS G (exB C []) W) := pss_nil.dimp fun D σ H ⟨j, s, h, S, L, p⟩ => by
  unfold exB at p
  exact p.nx S L
theorem PostS.seq {r : Rs} {f : Slots → Store → Rs} (p : PostS G j H (r.seq f) D W) : PostS G j H r { D with nx := tS G f W D } W := by
  cases r with
  | nx s h' => exact fun j2 H2 σ e S L => ⟨j2, s, h', S, L, PostS.mono p e⟩
  | rt v h' => exact p
  | exc c fs s h' => exact p
  | bad => exact p
theorem b_cons {C : Cfg} {st : Sm} {r : List Sm} {a : Stmt} {as : List Stmt} (h1 : PS X a (tS G (exS C st) W)) (h2 : PSs X as (tS G (exB C r) W)) : PSs X (a :: as) (tS G (exB C (st :: r)) W) :=
  (pss_cons h1 h2).dimp fun D σ H ⟨j, s, h, S, L, p⟩ => by
    unfold exB at p
    exact ⟨j, s, h, S, L, p.seq⟩
theorem b_frz {C : Cfg} {st : Sm} {r : List Sm} {as : List Stmt} (z : isFz st = true) (h2 : PSs X as (tS G (exB C r) W)) : PSs X as (tS G (exB C (st :: r)) W) :=
  h2.dimp fun D σ H ⟨j, s, h, S, L, p⟩ => by
    cases st <;> first | (cases z; done) | skip
    unfold exB at p
    unfold exS at p
    exact ⟨j, s, h, S, L, p⟩
theorem p_ret {C : Cfg} {e : Ex} {a : Expr} (he : PE X a (tE G (evE C e) W)) : PS X (.Return (some a) pos) (tS G (exS C (.ret e)) W) := (ps_ret he).dimp fun D σ H ⟨j, s, h, S, L, p⟩ => by
  unfold exS at p
  exact ⟨j, s, h, S, L, PostE.thn L p fun j1 H1 h1 v x ex S1 r1 p1 => p1 j1 H1 x .refl S1 r1⟩
theorem p_retN {C : Cfg} : PS X (.Return none pos) (tS G (exS C .retN) W) := ps_retN.dimp fun D σ H ⟨j, s, h, S, L, p⟩ => by
  unfold exS at p
  exact p j H .non .refl S .non
theorem p_pass {C : Cfg} : PS X (.Pass pos) (tS G (exS C .pass) W) := ps_pass.dimp fun D σ H ⟨j, s, h, S, L, p⟩ => by
  unfold exS at p
  exact p.nx S L
theorem p_ex {C : Cfg} {e : Ex} {a : Expr} (he : PE X a (tE G (evE C e) W)) (hs : isLc a = false) : PS X (.Expr a pos) (tS G (exS C (.ex e)) W) := (ps_expr he (by cases a <;> first | rfl | cases hs)).dimp fun D σ H ⟨j, s, h, S, L, p⟩ => by
  unfold exS at p
  exact ⟨j, s, h, S, L, PostE.thn L p fun j1 H1 h1 v x ex S1 r1 p1 => p1.nx S1 (L.mono ex)⟩
theorem p_ite {C : Cfg} {c : Ex} {a b : List Sm} {t : Expr} {x y : List Stmt} (hc : PT X t (tT G (evE C c) W)) (ha : PSs X x (tS G (exB C a) W)) (hb : PSs X y (tS G (exB C b) W)) : PS X (.If t x y pos) (tS G (exS C (.ite c a b)) W) :=
  (ps_if hc ha hb).dimp fun D σ H ⟨j, s, h, S, L, p⟩ => by
    unfold exS at p
    refine ⟨j, s, h, S, L, ?_⟩
    unfold tru1
    dsimp only
    cases q : evE C c s h with
    | bad => rw [q] at p; exact False.elim p
    | exc c fs h1 => rw [q] at p; exact fun j2 H2 d e S q => p j2 H2 d σ e S (L.mono e) q
    | ok v h1 =>
      rw [q] at p
      dsimp only [R.thn, R.bind] at p ⊢
      cases t : truthy h1 v with
      | none => rw [t] at p; exact False.elim p
      | some d =>
        rw [t] at p
        refine fun j1 H1 x ex S1 r1 => ⟨d, r1.blE, ?_⟩
        cases d with
        | true => rw [if_pos rfl]; exact ⟨j1, s, h1, S1, L.mono ex, PostS.mono p ex⟩
        | false => rw [if_neg (by decide)]; exact ⟨j1, s, h1, S1, L.mono ex, PostS.mono p ex⟩
theorem p_nvr {C : Cfg} {st : Stmt} : PS X st (tS G (exS C .nvr) W) := ps_never.dimp fun D σ H ⟨j, s, h, S, L, p⟩ => by
  unfold exS at p
  exact False.elim p
theorem swap0 {a : Expr} {o : Option Expr} {l : Nat} {env : Env} (h : isLc a = false) : swapsWith a o l env = pure false := by cases a <;> first | rfl | cases h
theorem p_asg {C : Cfg} {t : Tg} {e : Ex} {tg a : Expr} (hg : PG X tg (gA G t)) (he : PE X a (tE G (evE C e) W)) (h1 : isLc a = false) (h2 : (isTup tg && isTup a) = false) (h3 : (assignEach [tg] X.env).map (·.2) = [assign tg X.env]) : PS X (.Assign [tg] a pos) (tS G (exS C (.asg t e)) W) :=
  (ps_asg he hg (swap0 h1) (by
    unfold swappedStores
    cases tg <;> first | rfl | skip
    · cases a <;> first | rfl | (cases h2; done)
    · cases a <;> first | rfl | (cases h2; done)) h3).dimp fun D σ H ⟨j, s, h, S, L, p⟩ => by
    unfold exS at p
    refine ⟨j, s, h, S, L, PostE.thn L p fun j1 H1 h1 v x ex S1 r1 p1 => ?_⟩
    cases ea : asn t v s with
    | none => rw [ea] at p1; exact False.elim p1
    | some s' =>
      rw [ea] at p1
      exact ⟨j1, s, h1, v, s', S1, L.mono ex, r1, ea, fun σ' L' _ => p1.nx S1 L'⟩
def isStar : Expr → Bool
  | .Starred _ _ => true
  | _ => false
theorem star_no {a : Expr} {as : List Expr} {env : Env} {r : List (Bool × Sem Value)} (h : starEach (a :: as) env = (false, eval a env) :: r) : isStar a = false := by
  cases a <;> first | rfl | skip
  simp [starEach] at h
theorem p_par {C : Cfg} {i k : Nat} {e f : Ex} {x y : Str} {a b : Expr} {px py pt pt2 : Pos} {n1 n2 : Nat} (hc : X.calm = true) (hN : X.N.Nodup) (hk : X.env.scope.kind = .function) (hi : X.N[i]? = some x) (hj : X.N[k]? = some y) (hij : i ≠ k) (hxy : x ≠ y)
    (hx : X.env.scope.names.lookup x = some .local) (hy : X.env.scope.names.lookup y = some .local) (hl : (px.line == py.line) = true) (hf : foldish [a, b] = false) (ns1 : starEach [a, b] X.env = (false, eval a X.env) :: starEach [b] X.env) (ns2 : starEach [b] X.env = [(false, eval b X.env)])
    (ha : PA X [a, b] (tL G (evL C [e, f]) W)) : PS X (.Assign [.Tuple [.Name x px, .Name y py] n1 pt] (.Tuple [a, b] n2 pt2) pos) (tS G (exS C (.par i k e f)) W) := by
  refine (ps_par hc hN hi hj hij hx hy ha ?_ rfl).dimp fun D σ H ⟨j, s, h, S, L, p⟩ => ?_
  · have na := star_no ns1
    have nb := star_no ns2
    have kx : X.env.kindOf x = some .local := hx
    have ky : X.env.kindOf y = some .local := hy
    have hb : X.env.blockKind = .function := by unfold Env.blockKind; rw [hk]; rfl
    unfold foldish at hf
    rw [Bool.or_eq_false_iff] at hf
    have hl2 : (py.line == px.line) = true := by rw [beq_iff_eq] at hl ⊢; exact hl.symm
    have ne : (y == x) = false := beq_eq_false_iff_ne.mpr (Ne.symm hxy)
    unfold swappedStores
    simp only [List.any_cons, na, nb, List.any_nil, List.length_cons, List.length_nil, hb, List.head?_cons, Option.map_some, Option.getD_some, Expr.pos, List.filterMap_cons, kx, ky, beq_self_eq_true, hl2, hf.1, hf.2]
    have ed : [x, y].eraseDups = [x, y] := by
      simp [List.eraseDups_cons, ne]
    simp [ed]
    intro hh
    exfalso
    rcases hh with hh | hh
    · revert hh na
      cases a <;> simp [isStar]
    · revert hh nb
      cases b <;> simp [isStar]
  · unfold exS at p
    refine ⟨j, s, h, S, L, ?_⟩
    unfold evL
    cases q : evE C e s h with
    | bad => rw [q] at p; exact False.elim p
    | exc c fs h1 => rw [q] at p; exact fun j2 H2 d e S q => p j2 H2 d σ e S (L.mono e) q
    | ok v h1 =>
      rw [q] at p
      dsimp only [R.thn] at p
      dsimp only [R.bindl]
      unfold evL
      cases q2 : evE C f s h1 with
      | bad => rw [q2] at p; exact False.elim p
      | exc c fs h1 => rw [q2] at p; exact fun j2 H2 d e S q => p j2 H2 d σ e S (L.mono e) q
      | ok w h2 =>
        rw [q2] at p
        unfold evL
        intro j1 H1 xs ex S1 r1
        cases r1 with
        | cons r1 r2 =>
          cases r2 with
          | cons r2 r3 =>
            cases r3
            exact ⟨_, _, rfl, p j1 H1 _ ex S1 (((L.mono ex).set i r1).set k r2)⟩
end
end Dl
set_option Elab.async false
set_option linter.all false
set_option maxRecDepth 100000
set_option maxHeartbeats 4000000
/-! Loops, stores, tries of the small language. -/
namespace Dl
open PySem PySem.Spec PyProof.Rows L2
def turnS (C : Cfg) (t : Tg) (b : List Sm) : Va → Slots → Store → Rs := fun x s h => match asn t x s with
  | some s' => exB C b s' h
  | none => .bad
section
variable {X : Cx} {G : Gd} {W : WX} {j j' : List Addr} {H H' : Hp} {h : Store} {D : Ends} {pos : Pos}
theorem for_any {C : Cfg} {t : Tg} {b : List Sm} {l : List Va} {st : Store → Bool} {J : It} {s : Slots} {σ : L2.St} {j1 : List Addr} {H1 : Hp} {h1 : Store}
    (S1 : Sto G j1 h1 H1) (L1 : Slo G j1 H1 s σ) (tl : Tells G j1 H1 J l st) (p : PostS G j1 H1 (goS st (turnS C t b) l s h1) D W) :
    ∃ Wv : Nat → Nat → L2.St → Hp → Prop, (∃ m, Wv 0 m σ H1) ∧ ∀ i m σ H, Wv i m σ H →
      (J.stop i H ∧ D.nx σ H) ∨ (J.go i H ∧ ∃ N : L2.St → Hp → Prop, (∀ σ' H', N σ' H' → ∃ m', m' < m ∧ Wv (i + 1) m' σ' H') ∧ ∀ x H', J.yld i H x H' → gA G t x σ H' fun σ2 H2 => tS G (exB C b) W { D with nx := N, ct := N, bk := D.nx } σ2 H2) := by
  obtain ⟨kp, ik, kk⟩ := tl
  let Pv : Nat → L2.St → Hp → Prop := fun i σ H => ∃ j s h, Ext j1 H1 j H ∧ Sto G j h H ∧ Slo G j H s σ ∧ PostS G j H (goS st (turnS C t b) (l.drop i) s h) D W
  refine ⟨fun i m σ H => m = l.length - i ∧ i ≤ l.length ∧ Pv i σ H, ⟨l.length, by simp, Nat.zero_le _, j1, s, h1, .refl, S1, L1, p⟩, ?_⟩
  rintro i m σ H ⟨rfl, hi, j, s, h, ex, S, L, p⟩
  have hst : st h = true := by
    by_cases z : st h = true
    · exact z
    · cases hl : l.drop i with
      | nil => rw [hl] at p; unfold goS at p; rw [if_neg z] at p; exact False.elim p
      | cons x xs => rw [hl] at p; unfold goS at p; rw [if_neg z] at p; exact False.elim p
  obtain ⟨xs, k1, k2⟩ := kk j h H ex S hst
  by_cases hlt : i < l.length
  · refine .inr ?_
    have hx : l[i]? = some l[i] := by simp [hlt]
    obtain ⟨w, hw, rw_⟩ := k2.get hx
    obtain ⟨g1, g2⟩ := (ik xs i H k1).1 w hw
    rw [List.drop_eq_getElem_cons hlt] at p
    unfold goS at p
    rw [if_pos hst] at p
    refine ⟨g1, Pv (i + 1), fun σ' H' p' => ⟨l.length - (i + 1), by omega, rfl, hlt, p'⟩, fun x H' y => ?_⟩
    obtain ⟨e1, e2⟩ := g2 x H' y
    subst e1 e2
    unfold turnS at p
    cases ea : asn t l[i] s with
    | none => rw [ea] at p; exact False.elim p
    | some s' =>
      rw [ea] at p
      refine ⟨j, s, h, l[i], s', S, L, rw_, ea, fun σ2 L2 _ => ⟨j, s', h, S, L2, ?_⟩⟩
      dsimp only at p
      cases q : exB C b s' h with
      | nx s2 h2 =>
        rw [q] at p
        exact fun j2 H2 σ3 e3 S3 L3 => ⟨j2, s2, h2, ex.trans e3, S3, L3, PostS.mono p e3⟩
      | rt v h2 => rw [q] at p; exact p
      | exc c fs s2 h2 => rw [q] at p; exact p
      | bad => rw [q] at p; exact p
  · have ei : i = l.length := by omega
    subst ei
    refine .inl ⟨(ik xs _ H k1).2 (by rw [← k2.length]; exact Nat.le_refl _), ?_⟩
    rw [List.drop_length] at p
    unfold goS at p
    rw [if_pos hst] at p
    exact p.nx S L
theorem exS_fr {C : Cfg} {t : Tg} {it : Ex} {b : List Sm} {s : Slots} {h : Store} : exS C (.fr t it b) s h = (evE C it s h).thn s fun v h => match iter h v with
    | some (l, n) => goS (fun h => stays h l n) (turnS C t b) l s h
    | none => .bad := by
  conv => lhs; unfold exS
  all_goals rfl
theorem exS_frR {C : Cfg} {t : Tg} {es : List Ex} {b : List Sm} {s : Slots} {h : Store} : exS C (.frR t es b) s h = (evL C es s h).thn s fun vs h => match rngI vs with
    | some l => goS (fun _ => true) (turnS C t b) l s h
    | none => .bad := by
  conv => lhs; unfold exS
  all_goals rfl
theorem p_fr {C : Cfg} {t : Tg} {it : Ex} {b : List Sm} {tg iter : Expr} {body : List Stmt} (hp : PassesOwn (model X.prog X.w) X.A X.env X.xe) (hc : X.calm = true) (hi : PI X tg iter (tI G (evE C it) W)) (hg : PG X tg (gA G t)) (hb : PSs X body (tS G (exB C b) W))
    (hs : ∀ x, foldedSetIterable iter X.env x = pure x) : PS X (.For tg iter body [] pos) (tS G (exS C (.fr t it b)) W) := (ps_for hp hc hi hg hb hs).dimp fun D σ H ⟨j, s, h, S, L, p⟩ => by
  rw [exS_fr] at p
  refine ⟨j, s, h, S, L, ?_⟩
  cases q : evE C it s h with
  | bad => rw [q] at p; exact False.elim p
  | exc c fs h1 => rw [q] at p; exact fun j2 H2 d e S q => p j2 H2 d σ e S (L.mono e) q
  | ok v h1 =>
    rw [q] at p
    dsimp only [R.thn] at p
    cases q2 : Dl.iter h1 v with
    | none => rw [q2] at p; exact False.elim p
    | some ln =>
      obtain ⟨l, n⟩ := ln
      rw [q2] at p
      exact ⟨l, n, q2, fun j1 H1 J ex S1 tl => for_any S1 (L.mono ex) tl (PostS.mono p ex)⟩
theorem p_frR {C : Cfg} {t : Tg} {es : List Ex} {b : List Sm} {tg iter : Expr} {body : List Stmt} (hp : PassesOwn (model X.prog X.w) X.A X.env X.xe) (hc : X.calm = true) (hi : PI X tg iter (tRg G (evL C es) W)) (hg : PG X tg (gA G t)) (hb : PSs X body (tS G (exB C b) W))
    (hs : ∀ x, foldedSetIterable iter X.env x = pure x) : PS X (.For tg iter body [] pos) (tS G (exS C (.frR t es b)) W) := (ps_for hp hc hi hg hb hs).dimp fun D σ H ⟨j, s, h, S, L, p⟩ => by
  rw [exS_frR] at p
  refine ⟨j, s, h, S, L, ?_⟩
  cases q : evL C es s h with
  | bad => rw [q] at p; exact False.elim p
  | exc c fs h1 => rw [q] at p; exact fun j2 H2 d e S q => p j2 H2 d σ e S (L.mono e) q
  | ok vs h1 =>
    rw [q] at p
    dsimp only [Rl.thn] at p
    cases q2 : rngI vs with
    | none => rw [q2] at p; exact False.elim p
    | some l =>
      rw [q2] at p
      exact ⟨l, q2, fun j1 H1 J ex S1 tl => for_any S1 (L.mono ex) tl (PostS.mono p ex)⟩
theorem p_whl {C : Cfg} {c : Ex} {b : List Sm} {t : Expr} {body : List Stmt} (hw : ∀ F, C.wl F = .bad ∨ ∃ n, C.wl F = F n) (hp : PassesOwn (model X.prog X.w) X.A X.env X.xe) (hc : PT X t (tT G (evE C c) W)) (hb : PSs X body (tS G (exB C b) W)) : PS X (.While t body [] pos) (tS G (exS C (.whl c b)) W) :=
  (ps_while hp hc hb).dimp fun D σ H ⟨j, s, h, S, L, p⟩ => by
    unfold exS at p
    rcases hw (fun n => goW (fun s h => evE C c s h) (fun s h => exB C b s h) n s h) with e | ⟨n, e⟩
    · rw [e] at p; exact False.elim p
    rw [e] at p
    refine ⟨fun m σ H => ∃ j s h, Sto G j h H ∧ Slo G j H s σ ∧ PostS G j H (goW (fun s h => evE C c s h) (fun s h => exB C b s h) m s h) D W, ⟨n, j, s, h, S, L, p⟩, ?_⟩
    rintro m σ H ⟨j, s, h, S, L, p⟩
    cases m with
    | zero => unfold goW at p; exact False.elim p
    | succ m =>
      unfold goW at p
      refine ⟨j, s, h, S, L, ?_⟩
      unfold tru1
      dsimp only
      cases q : evE C c s h with
      | bad => rw [q] at p; exact False.elim p
      | exc c fs h1 => rw [q] at p; exact fun j2 H2 d e S q => p j2 H2 d σ e S (L.mono e) q
      | ok v h1 =>
        rw [q] at p
        dsimp only [R.thn, R.bind] at p ⊢
        cases t : truthy h1 v with
        | none => rw [t] at p; exact False.elim p
        | some d =>
          rw [t] at p
          refine fun j1 H1 x ex S1 r1 => ⟨d, r1.blE, ?_⟩
          cases d with
          | false => rw [if_neg (by decide)]; exact (PostS.mono p ex).nx S1 (L.mono ex)
          | true =>
            rw [if_pos rfl]
            refine ⟨fun σ' H' => ∃ j s h, Sto G j h H' ∧ Slo G j H' s σ' ∧ PostS G j H' (goW (fun s h => evE C c s h) (fun s h => exB C b s h) m s h) D W, fun σ' H' z => ⟨m, Nat.lt_succ_self m, z⟩, j1, s, h1, S1, L.mono ex, ?_⟩
            have p1 := PostS.mono p ex
            dsimp only at p1
            cases q : exB C b s h1 with
            | nx s2 h2 =>
              rw [q] at p1
              exact fun j2 H2 σ3 e3 S3 L3 => ⟨j2, s2, h2, S3, L3, PostS.mono p1 e3⟩
            | rt v h2 => rw [q] at p1; exact p1
            | exc c fs s2 h2 => rw [q] at p1; exact p1
            | bad => rw [q] at p1; exact p1
theorem p_tryn {C : Cfg} {b : List Sm} {body : List Stmt} {h0 : ExceptHandler} {hs : List ExceptHandler} (hb : PSs X.nox body (tS G (exB C b) Wno)) : PS X (.Try body (h0 :: hs) [] [] pos) (tS G (exS C (.tryn b)) W) := (ps_try_thru0 hb).dimp fun D σ H ⟨j, s, h, S, L, p⟩ => by
  unfold exS at p
  refine ⟨j, s, h, S, L, ?_⟩
  cases q : exB C b s h with
  | nx s2 h2 => rw [q] at p; exact p
  | rt v h2 => rw [q] at p; exact p
  | exc c fs s2 h2 => rw [q] at p; exact False.elim p
  | bad => rw [q] at p; exact p
theorem putF_pair {C : Addr} {f : Nat} {n : Str} {v : Va} {w : V} (nd : G.fld.Nodup) (hn : G.fld[f]? = some n) (hc : L2.Cls G.K C) (ha : NoAttr G.K C n) (r : RV G j H v w) : ∀ {l : List (Nat × Va)} {ws : List (Str × V)}, Paired (fun p q => (G.fld[p.1]? = some q.1 ∧ L2.Cls G.K C ∧ NoAttr G.K C q.1) ∧ RV G j H p.2 q.2) l ws →
    Paired (fun p q => (G.fld[p.1]? = some q.1 ∧ L2.Cls G.K C ∧ NoAttr G.K C q.1) ∧ RV G j H p.2 q.2) (Dl.putF f v l) (L2.putF n w ws)
  | _, _, .nil => .cons ⟨⟨hn, hc, ha⟩, r⟩ .nil
  | (g, u) :: l, (m, y) :: ws, .cons h1 h2 => by
    unfold Dl.putF L2.putF
    by_cases e : g = f
    · have e2 : m = n := by
        have := h1.1.1
        rw [e, hn] at this
        exact (Option.some.inj this).symm
      rw [if_pos e, if_pos e2]
      exact .cons ⟨h1.1, r⟩ h2
    · have e2 : m ≠ n := fun z => by
        have := h1.1.1
        rw [z] at this
        exact e ((List.getElem_inj nd).mp ((List.getElem?_eq_some_iff.mp this).2.trans (List.getElem?_eq_some_iff.mp hn).2.symm))
      rw [if_neg e, if_neg e2]
      exact .cons h1 (putF_pair nd hn hc ha r h2)
theorem p_fld {C : Cfg} {o e : Ex} {f : Nat} {n : Str} {x a : Expr} {p' : Pos} (hK : G.K = X.K) (nd : G.fld.Nodup) (hn : G.fld[f]? = some n) (cs : ∀ (c : Nat) (d : Cls) (f : Nat), C.cls[c]? = some d → f ∈ d.flds → ∃ C' y, G.CV c = .ref C' ∧ L2.Cls G.K C' ∧ G.fld[f]? = some y ∧ NoAttr G.K C' y)
    (ho : PE X x (tE G (evE C o) W)) (he : PE X a (tE G (evE C e) W)) : PS X (.Assign [.Attribute x n p'] a pos) (tS G (exS C (.fld o f e)) W) :=
  (ps_fld ho he (by cases a <;> rfl)).dimp fun D σ H ⟨j, s, h, S, L, p⟩ => by
    unfold exS at p
    refine ⟨j, s, h, S, L, PostE.thn L p fun j1 H1 h1 v y ex S1 r1 p1 => ⟨j1, s, h1, S1, L.mono ex, PostE.thn (L.mono ex) p1 fun j2 H2 h2 w z ex2 S2 r2 p2 => ?_⟩⟩
    split at p2
    · rename_i m
      obtain ⟨b, rfl, eb⟩ := r2.refA
      split at p2
      · rename_i c fs hm
        obtain ⟨C', dx, fs', c1, c2, c3⟩ := S2.ob m b _ eb hm
        split at p2
        · rename_i d hd
          split at p2
          · rename_i hl
            obtain ⟨C'', y', d1, d2, d3, d4⟩ := cs c d f hd hl.2
            rw [c1] at d1
            cases d1
            rw [hn] at d3
            cases d3
            have ex3 : Ext j2 H2 j2 (upd H2 b (.ins C' dx (L2.putF n y fs'))) := Ext.put S2 eb
            refine ⟨b, C', dx, fs', rfl, c2, hK ▸ d2, hK ▸ d4, by rw [← c3.length]; exact hl.1, p2 _ _ σ ex3 (S2.put eb ⟨C', dx, _, c1, upd_same, ?_⟩) (((L.mono ex).mono ex2).mono ex3)⟩
            exact Paired.imp' (putF_pair (j := j2) (H := H2) nd hn d2 d4 (r1.mono ex2) c3) fun a b z => ⟨z.1, z.2.mono ex3⟩
          · exact False.elim p2
        · exact False.elim p2
      · exact False.elim p2
    · exact False.elim p2
def putR (gl : List Va) (s : Slots) (x k v : Va) (h : Store) : Rs := match x with
  | .ref n => match h[n]? with
    | some (.dct l) => if kFit gl l k ∧ l.length < sizeLine then .nx s (h.set n (.dct (dput l k v))) else .bad
    | _ => .bad
  | _ => .bad
theorem exS_sub {C : Cfg} {o i e : Ex} {s : Slots} {h : Store} : exS C (.sub o i e) s h = (evE C e s h).thn s fun v h => (evE C o s h).thn s fun x h => (evE C i s h).thn s fun k h => putR C.gl s x k v h := by
  conv => lhs; unfold exS
  all_goals rfl
theorem p_sub {C : Cfg} {o i e : Ex} {x y a : Expr} {p' : Pos} (hK : G.K = X.K) (hg : C.gl = G.gl) (hu : X.A.units + 1 < cLine) (ho : PE X x (tE G (evE C o) W)) (hi : PE X y (tE G (evE C i) W)) (he : PE X a (tE G (evE C e) W)) : PS X (.Assign [.Subscript x y p'] a pos) (tS G (exS C (.sub o i e)) W) := by
  refine ⟨fun pins s σ H D I ⟨j, sl, h, S, L, p⟩ => ?_⟩
  rw [exS_sub] at p
  refine wpAny_Assign_Subscript (thn (he.run pins s σ H _ I ⟨j, sl, h, S, L, PostE.thn L p fun j1 H1 h1 v w ex S1 r1 p1 => (show ∃ j h v, Sto G j h H1 ∧ Slo G j H1 sl σ ∧ RV G j H1 v w ∧ PostS G j H1 ((evE C o sl h).thn sl fun x h => (evE C i sl h).thn sl fun k h => putR C.gl sl x k v h) D W from ⟨j1, h1, v, S1, L.mono ex, r1, p1⟩)⟩) fun r s1 ⟨v, H1, I1, rv, j1, h1, v1, S1, L1, r1, p1⟩ =>
    thn (ho.run pins s1 σ H1 _ I1 ⟨j1, sl, h1, S1, L1, PostE.thn L1 p1 fun j2 H2 h2 v2 w ex S2 r2 p2 => (show ∃ j h x1, Sto G j h H2 ∧ Slo G j H2 sl σ ∧ RV G j H2 v1 v ∧ RV G j H2 x1 w ∧ PostS G j H2 ((evE C i sl h).thn sl fun k h => putR C.gl sl x1 k v1 h) D W from ⟨j2, h2, v2, S2, L1.mono ex, r1.mono ex, r2, p2⟩)⟩) fun u s2 ⟨x2, H2, I2, rx, j2, h2, x1, S2, L2, r2, q2, p2⟩ =>
    thn (hi.run pins s2 σ H2 _ I2 ⟨j2, sl, h2, S2, L2, PostE.thn L2 p2 fun j3 H3 h3 v3 w ex S3 r3 p3 => (show ∃ j h k1, Sto G j h H3 ∧ Slo G j H3 sl σ ∧ RV G j H3 v1 v ∧ RV G j H3 x1 x2 ∧ RV G j H3 k1 w ∧ PostS G j H3 (putR C.gl sl x1 k1 v1 h) D W from ⟨j3, h3, v3, S3, L2.mono ex, r2.mono ex, q2.mono ex, r3, p3⟩)⟩) fun iv s3 ⟨y3, H3, I3, ry, j3, h3, k1, S3, L3, r3, q3, t3, p3⟩ => ?_) (by cases a <;> rfl)
  unfold putR at p3
  split at p3
  · rename_i n
    obtain ⟨b, rfl, eb⟩ := q3.refA
    split at p3
    · rename_i l hl
      split at p3
      · rename_i hf
        rw [hg] at hf
        obtain ⟨H4, H5, I4, ex4, S4, dp⟩ := dct_put I3 S3 eb hl hf.1 hf.2 t3 r3
        obtain rfl : u = Value.ref b := rx
        exact d_setItem hu I4 dp ry rv fun s5 I5 => ⟨σ, H5, I5, p3 _ _ σ ex4 S4 (L3.mono ex4)⟩
      · exact False.elim p3
    · exact False.elim p3
  · exact False.elim p3
end
end Dl
set_option Elab.async false
set_option linter.all false
set_option maxRecDepth 100000
set_option maxHeartbeats 4000000
/-! Every statement of the small language, as the machine runs it. -/
namespace Dl
open PySem PySem.Spec PyProof.Rows L2
theorem Ag.nox {X : Cx} {sc : Scope} (a : Ag X sc) : Ag X.nox sc := ⟨a.vis, a.loc, a.locl, a.gli, a.cap⟩
theorem Cn.nox {D : Dt} {X : Cx} {k : Nat} {W : WX} (c : Cn D X k W) : Cn D X.nox k Wno where
  calm := c.calm
  nd := c.nd
  kd := c.kd
  rm := c.rm
  tk := takesNo
  po := PassesOwn.never
  fx := c.fx
theorem notTest {M : Nm} {N : List Str} {sc : Scope} {t : Tg} {tg : Expr} {env : Env} (h : chkT N sc t tg = true) : (assignEach [tg] env).map (·.2) = [assign tg env] := by
  cases tg <;> first | rfl | skip
  cases t <;> (unfold chkT at h; cases h)
theorem asgLc {G : Gd} {C : Cfg} {W : WX} {i : Nat} {e : Ex} {X : Cx} {D : Ends} {σ : L2.St} {H : Hp} (p : tS G (exS C (.asg (.nm i) e)) W D σ H) : tE G (evE C e) W σ H fun x H1 => gName i x σ H1 D.nx := by
  obtain ⟨j, s, h, S, L, p⟩ := p
  unfold exS at p
  refine ⟨j, s, h, S, L, PostE.thn L p fun j1 H1 h1 v x ex S1 r1 p1 => ?_⟩
  unfold asn at p1
  exact p1.nx S1 ((L.mono ex).set i r1)
section
variable {D : Dt} {k : Nat}
theorem sndLc {i : Nat} {y : Str} {py pos : Pos} {e : Ex} {a : Expr} {X : Cx} {W : WX} {sc : Scope} (c : Cn D X k W) (ag : Ag X sc) (hi : X.N[i]? = some y) (hl : locl sc y = true) (hp : (py.line == a.pos.line) = true) (hb : blkL a y = true) (hlc : isLc a = true) (h : chkE D.M X.N sc e a = true) :
    PS X (.Assign [.Name y py] a pos) (tS (D.G X.K none) (exS (D.cfg k) (.asg (.nm i) e)) W) := by
  have hyl := ag.locl _ hl
  cases e <;> (unfold chkE at h; first | (cases h; done) | split at h) <;> first | (cases h; done) | (cases hlc; done) | skip
  · rename_i elt t it cond own a' elt' tg iter ifs scope pos'
    simp only [Bool.and_eq_true, List.all_eq_true, decide_eq_true_eq] at h
    obtain ⟨⟨⟨⟨⟨h1, h2⟩, h3⟩, h4⟩, h5⟩, h6⟩ := h
    obtain ⟨own', o1, o2⟩ := blk_ok h1
    have hs : swapsWith (.ListComp elt' [⟨tg, iter, ifs, 0⟩] scope pos') (some (.Name y py)) pos.line X.env = pure true := sw_true c.kd hyl hp (by unfold blkL at hb; simpa using hb)
    have z := ps_setLc (elt := elt') (tg := tg) (iter := iter) (ifs := ifs) (scope := scope) (own := own') (pos := pos') (g := gA (D.G X.K none) t) (tt := tC (D.G X.K none) (D.cfg k) cond) (te := tE (D.G X.K none) (evE (D.cfg k) elt) Wno) c.calm c.nd hi hyl hs (s_iter (G := D.G X.K none) rfl (sndE it iter c ag h4)) (BlkOk.sc o2 ag.cap) (fun s H C cl fp => sndT (X := X.blk s H scope (compEnvC scope cl C X.env) fp) (G := D.G X.K none) rfl c.calm c.nd ag_blk t tg h3)
      (fun s H C cl fp => by
        split at h6
        · split at h6
          · exact c_none
          · cases h6
        · split at h6
          · rename_i d
            exact c_some (sndP d _ (c.blk (s := s) (H := H) (C := C) (cl := cl) (fp := fp) (scope := scope) o2.kind) ag_blk h6)
          · cases h6
        · cases h6) (fun s H C cl fp => sndE elt elt' (c.blk (s := s) (H := H) (C := C) (cl := cl) (fp := fp) (scope := scope) o2.kind) ag_blk h5) (fold_of h4)
    rw [o1] at z
    exact z.dimp fun D' σ H p => comp_dimp h2 (asgLc (X := X) p)
  · rename_i elt t es cond own a' elt' tg x p as ap ifs scope pos'
    simp only [Bool.and_eq_true, List.all_eq_true, decide_eq_true_eq] at h
    obtain ⟨⟨⟨⟨⟨⟨⟨⟨h1, h2⟩, h3⟩, h4⟩, h5⟩, h6⟩, h7⟩, h8⟩, h9⟩ := h
    subst h1
    obtain ⟨own', o1, o2⟩ := blk_ok h5
    have hs : swapsWith (.ListComp elt' [⟨tg, .Call (.Name "range" p) as [] ap, ifs, 0⟩] scope pos') (some (.Name y py)) pos.line X.env = pure true := sw_true c.kd hyl hp (by unfold blkL at hb; simpa using hb)
    have z := ps_setLc (elt := elt') (tg := tg) (ifs := ifs) (scope := scope) (own := own') (pos := pos') (g := gA (D.G X.K none) t) (tt := tC (D.G X.K none) (D.cfg k) cond) (te := tE (D.G X.K none) (evE (D.cfg k) elt) Wno) c.calm c.nd hi hyl hs (rng_of (p := p) (pos := ap) (tg := tg) (ag.gli _ h2) (c.fx.bi _ (by decide +kernel)) h3 h4 (sndL es as c ag h3)) (BlkOk.sc o2 ag.cap) (fun s H C cl fp => sndT (X := X.blk s H scope (compEnvC scope cl C X.env) fp) (G := D.G X.K none) rfl c.calm c.nd ag_blk t tg h7)
      (fun s H C cl fp => by
        split at h9
        · split at h9
          · exact c_none
          · cases h9
        · split at h9
          · rename_i d
            exact c_some (sndP d _ (c.blk (s := s) (H := H) (C := C) (cl := cl) (fp := fp) (scope := scope) o2.kind) ag_blk h9)
          · cases h9
        · cases h9) (fun s H C cl fp => sndE elt elt' (c.blk (s := s) (H := H) (C := C) (cl := cl) (fp := fp) (scope := scope) o2.kind) ag_blk h8) (fun _ => rfl)
    rw [o1] at z
    exact z.dimp fun D' σ H p => compR_dimp h6 (asgLc (X := X) p)
mutual
theorem sndS : ∀ (st : Sm) (a : Stmt) {X : Cx} {W : WX} {sc : Scope}, Cn D X k W → Ag X sc → chkS D.M X.N sc st a = true → PS X a (tS (D.G X.K none) (exS (D.cfg k) st) W)
  | .asg t e, a, X, W, sc, c, ag, h => by
    unfold chkS at h
    split at h <;> first | (cases h; done) | skip
    rename_i tg a pos
    simp only [Bool.and_eq_true] at h
    obtain ⟨⟨h1, h2⟩, h3⟩ := h
    by_cases hl : isLc a = true
    · rw [if_pos hl] at h3
      split at h3
      · rename_i y py
        simp only [Bool.and_eq_true] at h3
        obtain ⟨⟨⟨h4, h5⟩, h6⟩, h7⟩ := h3
        split at h7
        · rename_i i
          unfold chkT at h1
          simp only [Bool.and_eq_true, decide_eq_true_eq] at h1
          exact sndLc c ag h1.1 h4 h5 h6 hl h2
        · cases h7
      · cases h3
    · rw [if_neg hl] at h3
      exact p_asg (sndT rfl c.calm c.nd ag t tg h1) (sndE e a c ag h2) (by simpa using hl) (by rw [Bool.not_eq_true'] at h3; exact h3) (notTest (M := D.M) (N := X.N) (sc := sc) h1)
  | .par i j e f, a, X, W, sc, c, ag, h => by
    unfold chkS at h
    split at h <;> first | (cases h; done) | skip
    rename_i x px y py n1 pt a b n2 pt2 pos
    simp only [Bool.and_eq_true, decide_eq_true_eq, Bool.not_eq_true'] at h
    obtain ⟨⟨⟨⟨⟨⟨⟨⟨⟨h1, h2⟩, h3⟩, h4⟩, h5⟩, h6⟩, h7⟩, h8⟩, h9⟩, h10⟩ := h
    have hL : chkL D.M X.N sc [e, f] [a, b] = true := by
      unfold chkL chkL chkL
      simp [h9, h10]
    exact p_par c.calm c.nd c.kd h1 h2 h3 h4 (ag.locl _ h5) (ag.locl _ h6) h7 h8 (star_of h9) (star_of h10) (sndL [e, f] [a, b] c ag hL)
  | .fld o f e, a, X, W, sc, c, ag, h => by
    unfold chkS at h
    split at h <;> first | (cases h; done) | skip
    simp only [Bool.and_eq_true, decide_eq_true_eq] at h
    obtain ⟨⟨h1, h2⟩, h3⟩ := h
    exact p_fld rfl c.fx.nf h1 (fun cn d f hd hf => c.fx.cs cn d f hd hf) (sndE o _ c ag h2) (sndE e _ c ag h3)
  | .sub o i e, a, X, W, sc, c, ag, h => by
    unfold chkS at h
    split at h <;> first | (cases h; done) | skip
    simp only [Bool.and_eq_true, decide_eq_true_eq] at h
    obtain ⟨⟨h1, h2⟩, h3⟩ := h
    exact p_sub rfl rfl (by have := c.rm.un; omega) (sndE o _ c ag h1) (sndE i _ c ag h2) (sndE e _ c ag h3)
  | .ex e, a, X, W, sc, c, ag, h => by
    unfold chkS at h
    split at h <;> first | (cases h; done) | skip
    simp only [Bool.and_eq_true, Bool.not_eq_true'] at h
    exact p_ex (sndE e _ c ag h.2) h.1
  | .ret e, a, X, W, sc, c, ag, h => by
    unfold chkS at h
    split at h <;> first | (cases h; done) | skip
    exact p_ret (sndE e _ c ag h)
  | .retN, a, X, W, sc, c, ag, h => by
    unfold chkS at h
    split at h <;> first | (cases h; done) | skip
    exact p_retN
  | .pass, a, X, W, sc, c, ag, h => by
    unfold chkS at h
    split at h <;> first | (cases h; done) | skip
    exact p_pass
  | .ite t b b', a, X, W, sc, c, ag, h => by
    unfold chkS at h
    split at h <;> first | (cases h; done) | skip
    simp only [Bool.and_eq_true] at h
    exact p_ite (sndP t _ c ag h.1.1) (sndB b _ c ag h.1.2) (sndB b' _ c ag h.2)
  | .fr t it b, a, X, W, sc, c, ag, h => by
    unfold chkS at h
    split at h <;> first | (cases h; done) | skip
    simp only [Bool.and_eq_true] at h
    exact p_fr c.po c.calm (s_iter rfl (sndE it _ c ag h.1.2)) (sndT rfl c.calm c.nd ag t _ h.1.1) (sndB b _ c ag h.2) (fold_of h.1.2)
  | .frR t es b, a, X, W, sc, c, ag, h => by
    unfold chkS at h
    split at h <;> first | (cases h; done) | skip
    simp only [Bool.and_eq_true, decide_eq_true_eq] at h
    obtain ⟨⟨⟨⟨⟨h1, h2⟩, h3⟩, h4⟩, h5⟩, h6⟩ := h
    subst h1
    exact p_frR c.po c.calm (rng_of (ag.gli _ h2) (c.fx.bi _ (by decide +kernel)) h3 h4 (sndL es _ c ag h3)) (sndT rfl c.calm c.nd ag t _ h5) (sndB b _ c ag h6) (fun _ => rfl)
  | .whl t b, a, X, W, sc, c, ag, h => by
    unfold chkS at h
    split at h <;> first | (cases h; done) | skip
    simp only [Bool.and_eq_true] at h
    exact p_whl c.fx.wl c.po (sndP t _ c ag h.1) (sndB b _ c ag h.2)
  | .tryn b, a, X, W, sc, c, ag, h => by
    unfold chkS at h
    split at h <;> first | (cases h; done) | skip
    exact p_tryn (sndB b _ c.nox ag.nox h)
  | .nvr, a, X, W, sc, c, ag, h => p_nvr
  | .frz l, a, X, W, sc, c, ag, h => by
    unfold chkS at h
    cases h
  | .rse cl es, a, X, W, sc, c, ag, h => by
    unfold chkS at h
    cases h
  | .try_ b hs, a, X, W, sc, c, ag, h => by
    unfold chkS at h
    cases h
theorem sndB : ∀ (b : List Sm) (as : List Stmt) {X : Cx} {W : WX} {sc : Scope}, Cn D X k W → Ag X sc → chkB D.M X.N sc b as = true → PSs X as (tS (D.G X.K none) (exB (D.cfg k) b) W)
  | [], as, X, W, sc, c, ag, h => by
    cases as with
    | nil => exact b_nil
    | cons a as => unfold chkB at h; cases h
  | s :: r, as, X, W, sc, c, ag, h => by
    unfold chkB at h
    by_cases z : isFz s = true
    · rw [if_pos z] at h
      exact b_frz z (sndB r as c ag h)
    rw [if_neg z] at h
    cases as with
    | nil => cases h
    | cons a as =>
      dsimp only at h
      rw [Bool.and_eq_true] at h
      exact b_cons (sndS s a c ag h.1) (sndB r as c ag h.2)
end
end
end Dl
set_option Elab.async false
set_option linter.all false
set_option maxRecDepth 100000
set_option maxHeartbeats 4000000
/-! Every def of a program that is told in the small language. -/
namespace Dl
open PySem PySem.Spec PyProof.Rows L2
/-- a def of the text and its form -/
structure DefOk (D : Dt) (K : PySem.W.Frag) (f : Nat) (d : Fn) : Prop where
  ex : ∃ (x qual : Str) (st : Stmt) (N : List Str), Fun K x qual st (D.FA f) (D.FD f) ∧ FnScope N (D.ps f) (defScope st) ∧ chkB D.M N (defScope st) d.body (defBody st) = true ∧ d.ns = N.length
  bd : Binds K (D.FD f) (D.ps f) []
  np : d.np = (D.ps f).length
  dv : d.dv = []
/-- what the top has written -/
structure Tx (D : Dt) (K : PySem.W.Frag) (mg : Str → Option Value) : Prop where
  fn : ∀ (f : Nat) (x : Str), D.M.fn[f]? = some x → x ≠ "" → ∃ d, D.P.fns[f]? = some d ∧ mg x = some (.ref (D.FA f)) ∧ PySem.W.keepIn K (.ref (D.FA f)) = true
  df : ∀ (f : Nat) (d : Fn), D.P.fns[f]? = some d → DefOk D K f d
  gl : ∀ (i : Nat) (x : Str) (v : Va), D.M.gl[i]? = some x → D.P.gl[i]? = some v → ∃ u y, mg x = some u ∧ RelV y u ∧ ∀ hx j H, RV (D.G K hx) j H v y
  bi : ∀ x ∈ biNames, mg x = none
  mkC : ∀ (c : Nat) (x : Str), D.M.cls[c]? = some x → c ∈ D.M.mkb → ∃ d f df C, D.P.cls[c]? = some d ∧ d.init = some f ∧ D.P.fns[f]? = some df ∧ D.CV c = .ref C ∧ mg x = some (.ref C) ∧ Mk K C (D.FA f)
  me : ∀ (c : Nat) (d : Cls) (m f : Nat) (x : Str), D.P.cls[c]? = some d → d.meths.lookup m = some f → D.M.mth[m]? = some x → ∃ C, D.CV c = .ref C ∧ L2.Cls K C ∧ Meth K C x (D.FA f) ∧ ∃ df, D.P.fns[f]? = some df
  cs : ∀ (c : Nat) (d : Cls) (f : Nat), D.P.cls[c]? = some d → f ∈ d.flds → ∃ C x, D.CV c = .ref C ∧ L2.Cls K C ∧ D.M.fld[f]? = some x ∧ NoAttr K C x
  mf : ∀ x ∈ D.M.mth, x ∉ D.M.fld
  nf : D.M.fld.Nodup
  wl : ∀ F, D.P.wl F = .bad ∨ ∃ n, D.P.wl F = F n
section
variable {D : Dt} {P : Program} {w : World} {K : PySem.W.Frag} {mg : Str → Option Value} {base : Heap}
theorem fx_of (T : Tx D K mg) {k : Nat} (ok : ∀ (f : Nat) (d : Fn), D.P.fns[f]? = some d → FnOk P w K mg base (L2.CX P w) (2 * k) (D.FA f) (D.FD f) (D.ps f) (D.sp K k f)) : Fx D P w K mg base k :=
  ⟨T.fn, ok, fun f d h => ⟨(T.df f d h).bd, (T.df f d h).np, (T.df f d h).dv⟩, T.gl, T.bi, T.mkC, T.me, T.cs, T.mf, T.nf, T.wl⟩
theorem ag_fn {CX : CXT} {N : List Str} {qual : Str} {scope : Scope} {f : Addr} {cd : Value} {A : Around} {outer : List Env} {s : Shared} {H : Hp} {E : XK} : Ag (cxOf CX P w K mg base N qual scope f cd A outer s H E) scope where
  vis x e := vis_iff.mp e
  loc x e := ⟨loc_iff.mp e, .inl rfl⟩
  locl x e := locl_iff.mp e
  gli x e := gli_iff.mp e
  cap x e := e
theorem slo_start {G : Gd} {j : List Addr} {H : Hp} {d : Fn} {N : List Str} {args : List Va} {vs : List V} (h1 : d.ns = N.length) (h2 : d.np = vs.length) (h3 : d.dv = []) (r : RVs G j H args vs) : Slo G j H (begin_ d args) (L2.start N vs) := by
  unfold begin_ L2.start
  rw [h3, h1, h2, List.drop_nil, List.append_nil]
  refine ⟨by simp [r.length], fun i v e => ?_⟩
  by_cases hi : i < args.length
  · rw [List.getElem?_append_left (by simpa using hi), List.getElem?_map] at e
    cases q : args[i]? with
    | none => rw [q] at e; cases e
    | some u =>
      rw [q] at e
      cases e
      obtain ⟨x, h4, h5⟩ := r.get q
      exact ⟨x, by rw [List.getElem?_append_left (by rw [List.length_map, ← r.length]; exact hi), List.getElem?_map, h4]; rfl, h5⟩
  · rw [List.getElem?_append_right (by simpa using hi)] at e
    rw [List.getElem?_replicate] at e
    split at e <;> cases e
theorem all_ok (T : Tx D K mg) : ∀ (k f : Nat) (d : Fn), D.P.fns[f]? = some d → FnOk P w K mg base (L2.CX P w) (2 * k) (D.FA f) (D.FD f) (D.ps f) (D.sp K k f)
  | 0, f, d, hd => by
    refine ⟨fun vs H Q E h => h.1, fun A outer s H args us vs Q E _ _ _ _ h => ?_⟩
    obtain ⟨_, j, a, h, S, r, p⟩ := h
    unfold run at p
    exact False.elim p
  | k + 1, f, d, hd => by
    have X := fx_of (P := P) (w := w) (base := base) T (all_ok T k)
    obtain ⟨⟨x, qual, st, N, F, S, hc, hn⟩, hb, hp, hv⟩ := T.df f d hd
    refine F.okX (k := 2 * k + 1) S (fun vs H Q E h => h.1) fun cdv A outer s H vs Q E hr h => ?_
    obtain ⟨hl, j, args, hs, St, r, p⟩ := h
    have c : Cn D (cxOf (L2.CX P w) P w K mg base N qual (defScope st) (D.FA f) cdv A outer s H E) k fun c d _ H => E c d H := ⟨rfl, S.nd, S.kind, hr, takes_of rfl rfl rfl rfl, passes_of (K := fun e s'' => L2.CX P w outer H s E e s'') rfl, X⟩
    refine ⟨_, sndB d.body (defBody st) c ag_fn hc, j, begin_ d args, hs, St, slo_start hn (by rw [hl, hp]) hv r, ?_⟩
    unfold run at p
    rw [hd] at p
    dsimp only at p
    split at p
    · cases q : exB (D.cfg k) d.body (begin_ d args) hs with
      | nx s1 h1 =>
        rw [q] at p
        exact fun j' H' σ' ex S' L' => p j' H' .non ex S' .non
      | rt v h1 => rw [q] at p; exact p
      | exc c fs s1 h1 => rw [q] at p; exact fun j' H' d σ' ex S' L' rx => p j' H' d ex S' rx
      | bad => rw [q] at p; exact p
    · exact False.elim p
/-- the script's law -/
def spLaw (K : PySem.W.Frag) : Sp := fun vs H Q _ => ∃ (a : Addr) (ns : List Int), vs = [.ref a] ∧ SqL K H a (ns.map V.int) ∧ ns.length ≤ 63 ∧ Only H ∧ ∀ H', Q (.bl true) H'
theorem RVs.nums {G : Gd} {j : List Addr} {H : Hp} : ∀ ns : List Int, RVs G j H (ns.map Va.int) (ns.map V.int)
  | [] => .nil
  | n :: ns => .cons (.int n) (RVs.nums ns)
theorem law_ok (T : Tx D K mg) {kk li : Nat} {d : Fn} (hd : D.P.fns[li]? = some d) {x : Str} (hps : D.ps li = [x])
    (hp : ∀ ns : List Int, ns.length ≤ 63 → ∃ h', run D.P kk li [.rl (ns.map .int)] [] = .ok (.bl true) h') : FnOk P w K mg base (L2.CX P w) (2 * kk) (D.FA li) (D.FD li) [x] (spLaw K) := by
  have F := all_ok (P := P) (w := w) (base := base) T kk li d hd
  rw [hps] at F
  refine F.imp fun vs H Q E h => ?_
  obtain ⟨a, ns, rfl, hS, hl, hO, q⟩ := h
  obtain ⟨h', e⟩ := hp ns hl
  refine ⟨by rw [hps]; rfl, [], [.rl (ns.map .int)], [], ⟨rfl, List.nodup_nil, fun n a o e => by simp at e⟩, .cons ?_ .nil, ?_⟩
  · rcases hS with hS | hS
    · rcases hS with hS | ⟨o, hS⟩
      · rcases hO a with e | ⟨o, xs, e⟩
        · rw [e] at hS; cases hS
        · rw [e] at hS; cases hS
      · exact .rl hS (RVs.nums ns)
    · exact .krl hS (RVs.nums ns)
  · rw [e]
    intro j' H' w' ex S r
    cases r
    exact q H'
end
theorem dl_walk {l : PySem.W.OpenLaw} {q : Program} {loose : List Str} {XP : (Str → Option Value) → Heap → Prop} {YP : World → Heap → Prop} {d : DefRec} {K : Params → PySem.W.Frag} {kk : Nat} {x : Str} (hn : l.most = some 63) (hdf : d.params.defaults = []) (hr : Room (2 * kk) callerA)
    (hY : ∀ (w : World) (h : Heap), YP w h → (K w.params).In h)
    (F : ∀ (w : World) (mg : Str → Option Value) (fa : Addr) (h : Heap), (K w.params).In h → h.Ns mainGlobals mg → mg d.name = some (.ref fa) →
      ∃ fd : FuncData, (∀ (s : Shared) (u : Value), BindsTo s fd ⟨[u], []⟩ [(x, u)]) ∧ ∀ base : Heap, (K w.params).In base → base.Ns mainGlobals mg → FnOk l.prog w (K w.params) mg base (L2.CX l.prog w) (2 * kk) fa fd [x] (spLaw (K w.params))) :
    PySem.W.WalkO q loose XP YP l.row.toRowW d [] (fun f vs => PySem.call f vs) :=
  L2.walk_of (n := 63) (k := 2 * kk) (x := x) (CX := fun w => L2.CX l.prog w) (sp := fun w => spLaw (K w.params)) hn (by decide) hdf hr hY F (fun _ _ a ns hl hO hS => ⟨a, ns, rfl, hS, hl, hO, fun _ => rfl⟩) fun _ _ _ _ _ z => by
    obtain ⟨_, _, _, _, _, _, _, _, _, _, _, _, z⟩ := z
    exact z
end Dl
set_option Elab.async false
set_option linter.all false
set_option maxRecDepth 100000
/-! The same programs, values as trees: no store but that of objects. -/
namespace Pu
open PySem (Str sizeLine PyData)
open Dl (Va Ob Store Ex Sm Tg Bop Cop Tyk Bi Bm Cls Fn allO atI cut)
/-! ### values -/
inductive At where
  | i (n : Int) | s (x : Str)
  deriving DecidableEq
inductive Ky where
  | a (x : At) | t (l : List At)
  deriving DecidableEq
inductive D where
  | non | bl (b : Bool) | int (i : Int) | str (s : Str) | tup (l : List D) | lst (l : List D) | dct (l : List (Ky × D)) | obj (n : Nat) | hx
  | own (l : List D) | box (i f : Nat) | rl (l : List D)
  deriving Inhabited
def At.va : At → Va
  | .i n => .int n
  | .s x => .str x
def Ky.va : Ky → Va
  | .a x => x.va
  | .t l => .tup (l.map At.va)
def At.d : At → D
  | .i n => .int n
  | .s x => .str x
def Ky.d : Ky → D
  | .a x => x.d
  | .t l => .tup (l.map At.d)
def atOf : D → Option At
  | .int n => some (.i n)
  | .str x => some (.s x)
  | _ => none
def keyOf : D → Option Ky
  | .int n => some (.a (.i n))
  | .str x => some (.a (.s x))
  | .tup l => (allO (l.map atOf)).map .t
  | _ => none
def Ky.isA : Ky → Bool
  | .a _ => true
  | .t _ => false
def Ky.isT (gl : List Va) : Ky → Bool
  | .a _ => false
  | .t l => decide (Va.tup (l.map At.va) ∉ gl)
mutual
def dOf : Va → D
  | .non => .non
  | .bl b => .bl b
  | .int i => .int i
  | .str s => .str s
  | .tup l => .tup (dOfs l)
  | _ => .hx
def dOfs : List Va → List D
  | [] => []
  | v :: l => dOf v :: dOfs l
end
/-- a constant of the text -/
def kOf : Va → Option D
  | .non => some .non
  | .bl b => some (.bl b)
  | .int i => some (.int i)
  | .str s => some (.str s)
  | _ => none
/-- a value without references as the store has it -/
def vaOf : Nat → D → Option Va
  | _, .non => some .non
  | _, .bl b => some (.bl b)
  | _, .int i => some (.int i)
  | _, .str s => some (.str s)
  | n + 1, .tup l => (allO (l.map (vaOf n))).map .tup
  | _, _ => none
def fl? : D → Option Va
  | .non => some .non
  | .bl b => some (.bl b)
  | .int i => some (.int i)
  | .str s => some (.str s)
  | _ => none
def dat : Nat → D → Option PyData
  | _, .non => some .none
  | _, .bl b => some (.bool b)
  | _, .int i => some (.int i)
  | _, .str s => if PyData.strOk s then some (.str s) else none
  | n + 1, .tup l => (allO (l.map (dat n))).map .tuple
  | n + 1, .lst l => (allO (l.map (dat n))).map .list
  | n + 1, .rl l => (allO (l.map (dat n))).map .list
  | _, _ => none
def truthy : D → Option Bool
  | .non => some false
  | .bl b => some b
  | .int i => some (i != 0)
  | .str s => if s.length ≤ sizeLine then some ((s.length : Int) != 0) else none
  | .tup l => some (!l.isEmpty)
  | .lst l => some (!l.isEmpty)
  | .rl l => some (!l.isEmpty)
  | _ => none
/-! ### operators -/
def binop (o : Bop) : D → D → Option (D × Bool)
  | .int i, .int j => match o with
    | .add => some (.int (i + j), false)
    | .sub => some (.int (i - j), false)
    | .mul => if i.natAbs.log2 + j.natAbs.log2 < 1000000 then some (.int (i * j), false) else none
    | .fdiv => if j ≠ 0 ∧ j.natAbs.log2 < 9000 then some (.int (i.fdiv j), false) else none
    | .mod => if j ≠ 0 then some (.int (i.fmod j), false) else none
    | .pow => if 0 ≤ j ∧ j ≤ 1000000 ∧ i.natAbs < 2 ^ 64 then some (.int (i ^ j.toNat), false) else none
  | .str x, .str y => match o with
    | .add => if x.length + y.length ≤ sizeLine then some (.str (x ++ y), false) else none
    | _ => none
  | .str x, .int k => match o with
    | .mul => if k = 0 then some (.str ⟨#[]⟩, false) else if k = 1 then some (.str x, false) else none
    | _ => none
  | .tup x, .tup y => match o with
    | .add => if x ≠ [] ∧ y ≠ [] ∧ x.length + y.length ≤ sizeLine then some (.tup (x ++ y), false) else none
    | _ => none
  | .lst x, .lst y => match o with
    | .add => if x.length + y.length ≤ sizeLine then some (.lst (x ++ y), true) else none
    | _ => none
  | _, _ => none
def plain2 : D → D → Option (Va × Va)
  | .int i, .int j => some (.int i, .int j)
  | .str i, .str j => some (.str i, .str j)
  | .bl i, .bl j => some (.bl i, .bl j)
  | .non, .non => some (.non, .non)
  | .non, .int j => some (.non, .int j)
  | .int j, .non => some (.int j, .non)
  | .non, .bl j => some (.non, .bl j)
  | .bl j, .non => some (.bl j, .non)
  | .non, .str j => some (.non, .str j)
  | .str j, .non => some (.str j, .non)
  | .int i, .str j => some (.int i, .str j)
  | .str j, .int i => some (.str j, .int i)
  | .bl i, .str j => some (.bl i, .str j)
  | .str j, .bl i => some (.str j, .bl i)
  | _, _ => none
/-- x == y -/
def eqq (x y : D) : Option Bool :=
  match plain2 x y with
  | some (a, b) => some (decide (a = b))
  | none => match dat 20 x, dat 20 y with
    | some d, some e => some (PyData.eqv d e)
    | _, _ => none
def dget (l : List (Ky × D)) (k : Ky) : Option D := (l.find? fun p => decide (p.1 = k)).map (·.2)
def dput (l : List (Ky × D)) (k : Ky) (v : D) : List (Ky × D) :=
  if (l.any fun p => decide (p.1 = k)) = true then l.map (fun p => if p.1 = k then (p.1, v) else p) else l ++ [(k, v)]
/-- a dict's own list changed -/
def dputO (l : List (Ky × D)) (k : Ky) (v : List D) : List (Ky × D) := l.map fun p => if p.1 = k then (match p.2 with
  | .own _ => (p.1, .own v)
  | _ => p) else p
def kFit (gl : List Va) (l : List (Ky × D)) (k : Ky) : Bool :=
  (k.isA && l.all fun p => p.1.isA) || (k.isT gl && l.all fun p => p.1.isT gl)
def inn (gl : List Va) (x y : D) : Option Bool :=
  match y with
  | .str z => match x with
    | .str s => match s.cps.toList with
      | [c] => some (decide (c ∈ z.cps.toList))
      | _ => none
    | _ => none
  | .dct l => match keyOf x with
    | some k => if kFit gl l k then some (dget l k).isSome else none
    | none => none
  | .lst l => match fl? x, allO (l.map fl?) with
    | some v, some vs => some (vs.any fun u => Dl.eqF u v)
    | _, _ => none
  | .tup l => match fl? x, allO (l.map fl?) with
    | some v, some vs => some (vs.any fun u => Dl.eqF u v)
    | _, _ => none
  | _ => none
def isN : D → Bool
  | .non => true
  | _ => false
def cmpo (gl : List Va) (o : Cop) (x y : D) : Option Bool :=
  match o with
  | .eq => eqq x y
  | .ne => (eqq x y).map (!·)
  | .lt => match x, y with
    | .int i, .int j => some (decide (i < j))
    | .str s, .str t => some (decide (s.cps.toList < t.cps.toList))
    | _, _ => none
  | .le => match x, y with
    | .int i, .int j => some (decide (i ≤ j))
    | _, _ => none
  | .gt => match x, y with
    | .int i, .int j => some (decide (j < i))
    | _, _ => none
  | .ge => match x, y with
    | .int i, .int j => some (decide (j ≤ i))
    | _, _ => none
  | .isN => if isN y then some (isN x) else none
  | .notN => if isN y then some (!isN x) else none
  | .inn => inn gl x y
  | .nin => (inn gl x y).map (!·)
def item (gl : List Va) (x y : D) : Option D :=
  match x with
  | .tup l => match y with
    | .int i => atI l i
    | _ => none
  | .lst l => match y with
    | .int i => atI l i
    | _ => none
  | .rl l => match y with
    | .int i => atI l i
    | _ => none
  | .str z => match y with
    | .int i => if z.length ≤ sizeLine then (atI z.cps.toList i).map fun c => .str ⟨#[c]⟩ else none
    | _ => none
  | .dct l => match keyOf y with
    | some k => if kFit gl l k then dget l k else none
    | none => none
  | _ => none
def slc (x : D) (lo hi : Option Int) : Option (D × Bool) :=
  match x with
  | .lst l => some (.lst (cut l lo hi), true)
  | .rl l => some (.lst (cut l lo hi), true)
  | .str z => if z.length ≤ sizeLine then some (.str ⟨(cut z.cps.toList lo hi).toArray⟩, false) else none
  | .tup l => some (.tup (cut l lo hi), false)
  | _ => none
def ints? (l : List D) : Option (List Int) := allO (l.map fun v => match v with | .int i => some i | _ => none)
def isOwn : D → Bool
  | .own _ => true
  | _ => false
def noOwn (l : List (Ky × D)) : Bool := l.all fun p => !isOwn p.2
mutual
/-- no list, no dict inside -/
def nl : D → Bool
  | .tup l => nls l
  | .lst _ => false
  | .dct _ => false
  | .own _ => false
  | .rl _ => false
  | _ => true
def nls : List D → Bool
  | [] => true
  | d :: l => nl d && nls l
end
def isTy (t : Tyk) : D → Option Bool
  | .non => some false
  | .bl _ => some (t = .bool || t = .int)
  | .int _ => some (t = .int)
  | .str _ => some (t = .str)
  | .tup _ => some (t = .tuple)
  | .lst _ => some (t = .list)
  | .rl _ => some (t = .list)
  | .dct _ => some (t = .dict)
  | _ => none
/-- sorted: what has no references, by the order of the store's values -/
def srt (l : List D) : Option (List D) := match allO (l.map (vaOf 20)) with
  | some vs => if Dl.srtOk [] vs then some (dOfs (Dl.sortV vs)) else none
  | none => none
def prs? (l : List D) : Option (List (Ky × D)) := allO (l.map fun v => match v with
  | .tup [a, b] => (keyOf a).map fun k => (k, b)
  | _ => none)
def bfn (b : Bi) (vs : List D) : Option (D × Bool) :=
  match b, vs with
  | .len, [.str s] => if s.length ≤ sizeLine then some (.int s.length, false) else none
  | .len, [.lst l] => some (.int l.length, false)
  | .len, [.dct l] => some (.int l.length, false)
  | .len, [.tup l] => some (.int l.length, false)
  | .len, [.rl l] => some (.int l.length, false)
  | .abs, [.int i] => some (.int (if i < 0 then -i else i), false)
  | .max, [.int i, .int j] => some (.int (if j > i then j else i), false)
  | .min, [.int i, .int j] => some (.int (if j < i then j else i), false)
  | .max, [.str i, .str j] => some (.str (if i.cps.toList < j.cps.toList then j else i), false)
  | .min, [.str i, .str j] => some (.str (if j.cps.toList < i.cps.toList then j else i), false)
  | .max, [.lst l] => match ints? l with
    | some (i :: is) => some (.int (is.foldl max i), false)
    | _ => none
  | .min, [.lst l] => match ints? l with
    | some (i :: is) => some (.int (is.foldl min i), false)
    | _ => none
  | .sum, [.lst l] => match ints? l with
    | some is => some (.int is.sum, false)
    | _ => none
  | .sorted, [.lst l] => (srt l).map fun m => (.lst m, true)
  | .sorted, [.dct l] => (srt (l.map (·.1.d))).map fun m => (.lst m, true)
  | .list, [.lst l] => some (.lst l, true)
  | .list, [.tup l] => some (.lst l, true)
  | .list, [.rl l] => some (.lst l, true)
  | .tuple, [.lst l] => some (.tup l, false)
  | .tuple, [.tup l] => some (.tup l, false)
  | .dict, [.dct l] => if (l.all fun p => p.1.isA) && noOwn l then some (.dct l, true) else none
  | .dict, [.lst l] => match prs? l with
    | some ps => if (ps.all fun p => p.1.isA) then some (.dct (ps.foldl (fun acc p => dput acc p.1 p.2) []), true) else none
    | none => none
  | .int, [.int i] => some (.int i, false)
  | .int, [.bl b] => some (.int (if b then 1 else 0), false)
  | .str, [.int i] => if i.natAbs.log2 < 1920 then some (.str (toString i), false) else none
  | .str, [.str s] => some (.str s, false)
  | .divmod, [.int i, .int j] => if 0 < j ∧ j.natAbs.log2 < 9000 then some (.tup [.int (i / j), .int (i % j)], false) else none
  | .isi t, [v] => (isTy t v).map fun c => (.bl c, false)
  | _, _ => none
/-- what a method leaves of its receiver -/
def bmf (b : Bm) (o : D) (vs : List D) : Option D :=
  match b, o, vs with
  | .append, .lst l, [x] => if l.length < sizeLine then some (.lst (l ++ [x])) else none
  | .clear, .lst _, [] => some (.lst [])
  | .clear, .dct _, [] => some (.dct [])
  | .reverse, .lst l, [] => some (.lst l.reverse)
  | _, _, _ => none
def bmT (b : Bm) : D → Bool
  | .lst _ => true
  | .dct _ => match b with
    | .clear => true
    | _ => false
  | _ => false
def dlf (b : Bm) : D → Option D
  | .dct l => if noOwn l then (match b with
    | .items => some (.lst (l.map fun p => .tup [p.1.d, p.2]))
    | .values => some (.lst (l.map (·.2)))
    | _ => none) else none
  | _ => none
def iter : D → Option (List D)
  | .tup l => some l
  | .lst l => some l
  | .rl l => some l
  | .str z => some (z.cps.toList.map fun c => .str ⟨#[c]⟩)
  | _ => none
def rangeI (lo : Int) : Nat → List D
  | 0 => []
  | n + 1 => .int lo :: rangeI (lo + 1) n
@[irreducible] def rngI : List D → Option (List D)
  | [.int n] => if -(2 ^ 62) ≤ n ∧ n < 2 ^ 62 then some (rangeI 0 n.toNat) else none
  | [.int a, .int b] => if (-(2 ^ 62) ≤ a ∧ a < 2 ^ 62) ∧ -(2 ^ 62) ≤ b ∧ b < 2 ^ 62 then some (rangeI a (b - a).toNat) else none
  | _ => none
def lkF (f : Nat) (l : List (Nat × D)) : Option D := (l.find? fun p => p.1 == f).map (·.2)
def putF (f : Nat) (v : D) : List (Nat × D) → List (Nat × D)
  | [] => [(f, v)]
  | (g, w) :: r => if g = f then (g, v) :: r else (g, w) :: putF f v r
/-! ### what a value's holder may do -/
/-- shr: anybody's, never changed again; fr: new, nobody's yet; ho, hb: a local's own, a caller's; hf: a field's -/
inductive Fl where
  | shr | fr | ho | hb | hf (i f : Nat) | hk (i f : Nat) (y : Ky)
  deriving DecidableEq
def Fl.of (b : Bool) : Fl := if b then .fr else .shr
structure Oj where
  c : Nat
  fs : List (Nat × D)
abbrev Os := List Oj
inductive Sl where
  | no | sh (d : D) | ow (d : D) | bo (d : D) | bx (i f : Nat)
abbrev Slots := List Sl
inductive R where
  | ok (d : D) (fl : Fl) (O : Os) | exc (c : Nat) (fs : List D) (O : Os) | bad
inductive Rl where
  | ok (l : List (D × Fl)) (O : Os) | exc (c : Nat) (fs : List D) (O : Os) | bad
inductive Rs where
  | nx (s : Slots) (O : Os) | rt (d : D) (fl : Fl) (O : Os) | exc (c : Nat) (fs : List D) (s : Slots) (O : Os) | bad
def R.bind : R → (D → Fl → Os → R) → R
  | .ok d fl O, f => f d fl O
  | .exc c fs O, _ => .exc c fs O
  | .bad, _ => .bad
def R.bindl : R → (D → Fl → Os → Rl) → Rl
  | .ok d fl O, f => f d fl O
  | .exc c fs O, _ => .exc c fs O
  | .bad, _ => .bad
def Rl.bind : Rl → (List (D × Fl) → Os → R) → R
  | .ok l O, f => f l O
  | .exc c fs O, _ => .exc c fs O
  | .bad, _ => .bad
def R.thn (r : R) (s : Slots) (f : D → Fl → Os → Rs) : Rs :=
  match r with
  | .ok d fl O => f d fl O
  | .exc c fs O => .exc c fs s O
  | .bad => .bad
def Rl.thn (r : Rl) (s : Slots) (f : List (D × Fl) → Os → Rs) : Rs :=
  match r with
  | .ok l O => f l O
  | .exc c fs O => .exc c fs s O
  | .bad => .bad
def Rs.seq : Rs → (Slots → Os → Rs) → Rs
  | .nx s O, f => f s O
  | .rt d fl O, _ => .rt d fl O
  | .exc c fs s O, _ => .exc c fs s O
  | .bad, _ => .bad
def R.of (O : Os) : Option (D × Bool) → R
  | some (d, b) => .ok d (.of b) O
  | none => .bad
def fldOf (O : Os) (i f : Nat) : Option D := (O[i]?).bind fun o => lkF f o.fs
/-- a field's dict's list -/
def ownOf (O : Os) (i f : Nat) (y : Ky) : Option D := match fldOf O i f with
  | some (.dct ps) => match dget ps y with
    | some (.own l) => some (.lst l)
    | _ => none
  | _ => none
/-- what stands there now -/
def cur (O : Os) (d : D) : Fl → D
  | .hf i f => (fldOf O i f).getD .hx
  | .hk i f y => (ownOf O i f y).getD .hx
  | _ => d
def curs (O : Os) (l : List (D × Fl)) : List D := l.map fun p => cur O p.1 p.2
def frz1 : Fl → Fl
  | .fr => .shr
  | x => x
/-- may be handed on -/
def Fl.free : Fl → Bool
  | .shr => true
  | .fr => true
  | _ => false
def allShr (l : List (D × Fl)) : Option (List D) := if (l.all fun p => p.2.free) then some (l.map (·.1)) else none
def toArg : D × Fl → Option Sl
  | (d, .shr) => some (.sh d)
  | (d, .fr) => some (.sh d)
  | (d, .ho) => some (.bo d)
  | (d, .hb) => some (.bo d)
  | (_, .hf i f) => some (.bx i f)
  | (_, .hk ..) => none
def toArgs (l : List (D × Fl)) : Option (List Sl) := allO (l.map toArg)
open Classical in
/-- what is gone over is as it was -/
noncomputable def stay (d : D) (fl : Fl) (O : Os) : Bool := match fl, d with
  | .hf i f, .lst l => nls l && decide (fldOf O i f = some d)
  | .hk i f y, .lst l => nls l && decide (ownOf O i f y = some d)
  | .hf _ _, _ => false
  | .hk .., _ => false
  | _, _ => true
structure Cfg where
  run : Nat → List Sl → Os → R
  gl : List Va
  cls : List Cls
  mut_ : Nat → Bool
  nst : Nat → Bool
  hd : Option (Nat × List D) := none
  wl : (Nat → Rs) → Rs
def asn : Tg → D → Fl → Slots → Option Slots
  | .nm i, d, fl, s => match fl with
    | .shr => some (s.set i (.sh d))
    | .fr => some (s.set i (.ow d))
    | _ => none
  | .tup ts, .tup ds, _, s => asns ts ds s
  | .tup _, _, _, _ => none
where
  asns : List Tg → List D → Slots → Option Slots
    | [], [], s => some s
    | t :: ts, d :: ds, s => match asn t d .shr s with
      | some s' => asns ts ds s'
      | none => none
    | _, _, _ => none
def wipeS (s : Slots) : List Nat → Slots
  | [] => s
  | v :: vs => (wipeS s vs).set v .no
def frz1S (s : Slots) (i : Nat) : Slots := match s[i]? with
  | some (.ow d) => s.set i (.sh d)
  | _ => s
def frzS (s : Slots) : List Nat → Slots
  | [] => s
  | i :: is => frzS (frz1S s i) is
def goC (chk : Os → Bool) (f : D → Os → Option (Option D × Os)) : List D → List D → Os → Rl
  | [], acc, O => if chk O then .ok (acc.reverse.map fun d => (d, .shr)) O else .bad
  | x :: xs, acc, O => if chk O then (match f x O with
    | some (some v, O') => goC chk f xs (v :: acc) O'
    | some (none, O') => goC chk f xs acc O'
    | none => .bad) else .bad
/-- an item that a list takes -/
def R.opt : R → Option (D × Os)
  | .ok d fl O => if fl.free then some (d, O) else none
  | _ => none
/-- a field whose dict has lists of its own -/
def nsts (C : Cfg) : Fl → Bool
  | .hf _ f => C.nst f
  | _ => false
mutual
noncomputable def evE (C : Cfg) : Ex → Slots → Os → R
  | .v i, s, O => match s[i]? with
    | some (.sh d) => .ok d .shr O
    | some (.bx j f) => .ok (.box j f) (.hf j f) O
    | some (.ow d) => .ok d .ho O
    | some (.bo d) => .ok d .hb O
    | _ => .bad
  | .k c, _, O => match kOf c with
    | some d => .ok d .shr O
    | none => .bad
  | .g i, _, O => match C.gl[i]? with
    | some v => .ok (dOf v) .shr O
    | none => .bad
  | .tup es, s, O => (evL C es s O).bind fun l O => match allShr l with
    | some ds => .ok (.tup ds) .shr O
    | none => .bad
  | .lst es, s, O => (evL C es s O).bind fun l O => match allShr l with
    | some ds => .ok (.lst ds) .fr O
    | none => .bad
  | .dct0, _, O => .ok (.dct []) .fr O
  | .bin o a b, s, O => (evE C a s O).bind fun x fx O => (evE C b s O).bind fun y fy O => .of O (binop o (cur O x fx) (cur O y fy))
  | .neg a, s, O => (evE C a s O).bind fun x _ O => match x with
    | .int i => .ok (.int (-i)) .shr O
    | _ => .bad
  | .nt a, s, O => (evE C a s O).bind fun x fx O => match truthy (cur O x fx) with
    | some b => .ok (.bl (!b)) .shr O
    | none => .bad
  | .an es, s, O => evA C es s O
  | .or es, s, O => evO C es s O
  | .cmp o a b, s, O => (evE C a s O).bind fun x fx O => (evE C b s O).bind fun y fy O => match cmpo C.gl o (cur O x fx) (cur O y fy) with
    | some c => .ok (.bl c) .shr O
    | none => .bad
  | .cmp2 o p a b c, s, O => (evE C a s O).bind fun x fx O => (evE C b s O).bind fun y fy O => match cmpo C.gl o (cur O x fx) (cur O y fy) with
    | some true => (evE C c s O).bind fun z fz O => match cmpo C.gl p (cur O y fy) (cur O z fz) with
      | some c => .ok (.bl c) .shr O
      | none => .bad
    | some false => .ok (.bl false) .shr O
    | none => .bad
  | .call f es, s, O => (evL C es s O).bind fun l O => match toArgs l with
    | some as => C.run f as O
    | none => .bad
  | .mk c es, s, O => (evL C es s O).bind fun l O => match toArgs l with
    | some as => match C.cls[c]? with
      | some k => match k.init with
        | some f => (C.run f (.sh (.obj O.length) :: as) (O ++ [⟨c, []⟩])).bind fun v _ O' => if isN v then .ok (.obj O.length) .shr O' else .bad
        | none => .bad
      | none => .bad
    | none => .bad
  | .meth m o es, s, O => (evE C o s O).bind fun x _ O => match x with
    | .obj n => match O[n]? with
      | some oj => match C.cls[oj.c]? with
        | some k => match k.meths.lookup m with
          | some f => (evL C es s O).bind fun l O => match toArgs l with
            | some as => C.run f (.sh (.obj n) :: as) O
            | none => .bad
          | none => .bad
        | none => .bad
      | none => .bad
    | _ => .bad
  | .bi b es, s, O => (evL C es s O).bind fun l O => .of O (bfn b (curs O l))
  | .bm .., _, _ => .bad
  | .fld o f, s, O => (evE C o s O).bind fun x _ O => match x with
    | .obj n => match fldOf O n f with
      | some v => if C.mut_ f then .ok (.box n f) (.hf n f) O else .ok v .shr O
      | none => .bad
    | .hx => match C.hd with
      | some (_, v :: _) => .ok v .shr O
      | _ => .bad
    | _ => .bad
  | .ix a b, s, O => (evE C a s O).bind fun x fx O => (evE C b s O).bind fun y fy O => if nsts C fx then (match item C.gl (cur O x fx) (cur O y fy) with
      | some (.own _) => (match fx, keyOf (cur O y fy) with
        | .hf i f, some k => .ok (.box i f) (.hk i f k) O
        | _, _ => .bad)
      | _ => .bad) else match item C.gl (cur O x fx) (cur O y fy) with
      | some v => .ok v .shr O
      | none => .bad
  | .sl a lo hi, s, O => (evE C a s O).bind fun x fx O => evP C lo s O fun i O => evP C hi s O fun j O => .of O (slc (cur O x fx) i j)
  | .ife c a b, s, O => (evE C c s O).bind fun x fx O => match truthy (cur O x fx) with
    | some true => evE C a s O
    | some false => evE C b s O
    | none => .bad
  | .comp elt t it cond own, s, O => (evE C it s O).bind fun d fd O => match iter (cur O d fd) with
    | some l => if l.length ≤ sizeLine then (goC (stay (cur O d fd) fd) (fun x O => match asn t x .shr (wipeS s own) with
      | some s' => match evC C cond s' O with
        | some (true, O) => (evE C elt s' O).opt.map fun (v, O) => (some v, O)
        | some (false, O) => some (none, O)
        | none => none
      | none => none) l [] O).bind fun vs O => .ok (.lst (vs.map (·.1))) .fr O else .bad
    | none => .bad
  | .compR elt t es cond own, s, O => (evL C es s O).bind fun vs O => match rngI (curs O vs) with
    | some l => if l.length ≤ sizeLine then (goC (fun _ => true) (fun x O => match asn t x .shr (wipeS s own) with
      | some s' => match evC C cond s' O with
        | some (true, O) => (evE C elt s' O).opt.map fun (v, O) => (some v, O)
        | some (false, O) => some (none, O)
        | none => none
      | none => none) l [] O).bind fun vs O => .ok (.lst (vs.map (·.1))) .fr O else .bad
    | none => .bad
  | .isx a c, s, O => (evE C a s O).bind fun x _ O => match x with
    | .hx => match C.hd with
      | some (d, _) => match C.cls[d]? with
        | some k => .ok (.bl (decide (c ∈ k.up))) .shr O
        | none => .bad
      | none => .bad
    | _ => .bad
  | .dl b o, s, O => (evE C o s O).bind fun x fx O => match dlf b (cur O x fx) with
    | some d => .ok d .fr O
    | none => .bad
noncomputable def evL (C : Cfg) : List Ex → Slots → Os → Rl
  | [], _, O => .ok [] O
  | e :: es, s, O => (evE C e s O).bindl fun v f O => match evL C es s O with
    | .ok vs O => .ok ((v, frz1 f) :: vs) O
    | .exc c fs O => .exc c fs O
    | .bad => .bad
noncomputable def evA (C : Cfg) : List Ex → Slots → Os → R
  | [], _, _ => .bad
  | [e], s, O => evE C e s O
  | e :: es, s, O => (evE C e s O).bind fun x fx O => match truthy (cur O x fx) with
    | some true => evA C es s O
    | some false => .ok x fx O
    | none => .bad
noncomputable def evO (C : Cfg) : List Ex → Slots → Os → R
  | [], _, _ => .bad
  | [e], s, O => evE C e s O
  | e :: es, s, O => (evE C e s O).bind fun x fx O => match truthy (cur O x fx) with
    | some false => evO C es s O
    | some true => .ok x fx O
    | none => .bad
noncomputable def evC (C : Cfg) : Option Ex → Slots → Os → Option (Bool × Os)
  | none, _, O => some (true, O)
  | some c, s, O => match evE C c s O with
    | .ok b fb O => (truthy (cur O b fb)).map fun k => (k, O)
    | _ => none
noncomputable def evP (C : Cfg) : Option Ex → Slots → Os → (Option Int → Os → R) → R
  | none, _, O, f => f none O
  | some e, s, O, f => (evE C e s O).bind fun v _ O => match v with
    | .int i => f (some i) O
    | _ => .bad
end
def goS (chk : Os → Bool) (f : D → Slots → Os → Rs) : List D → Slots → Os → Rs
  | [], s, O => if chk O then .nx s O else .bad
  | x :: xs, s, O => if chk O then (f x s O).seq fun s O => goS chk f xs s O else .bad
def goW (t : Slots → Os → R) (f : Slots → Os → Rs) : Nat → Slots → Os → Rs
  | 0, _, _ => .bad
  | n + 1, s, O => (t s O).thn s fun v fv O => match truthy (cur O v fv) with
    | some true => (f s O).seq fun s O => goW t f n s O
    | some false => .nx s O
    | none => .bad
def Cfg.sub (C : Cfg) (c d : Nat) : Bool := match C.cls[c]? with
  | some k => decide (d ∈ k.up)
  | none => false
/-- what a receiver in place becomes -/
def putAt (C : Cfg) (s : Slots) (O : Os) (o : Ex) (x : D) (fx : Fl) (u : D → Option D) : Rs :=
  match fx with
  | .hf i f => if C.nst f then .bad else match O[i]? with
    | some oj => match lkF f oj.fs with
      | some d => match u d with
        | some d' => .nx s (O.set i ⟨oj.c, putF f d' oj.fs⟩)
        | none => .bad
      | none => .bad
    | none => .bad
  | .hk i f y => match O[i]? with
    | some oj => match lkF f oj.fs with
      | some (.dct ps) => match dget ps y with
        | some (.own l) => match u (.lst l) with
          | some (.lst l') => .nx s (O.set i ⟨oj.c, putF f (.dct (dputO ps y l')) oj.fs⟩)
          | _ => .bad
        | _ => .bad
      | _ => .bad
    | none => .bad
  | .ho => match o with
    | .v j => match u x with
      | some d' => .nx (s.set j (.ow d')) O
      | none => .bad
    | _ => .bad
  | .fr => match u x with
    | some _ => .nx s O
    | none => .bad
  | _ => .bad
/-- a dict with an entry put -/
def subU (gl : List Va) (ky : Option Ky) (v : D) : D → Option D
  | .dct l => match ky with
    | some k => if kFit gl l k ∧ l.length < sizeLine then some (.dct (dput l k v)) else none
    | none => none
  | _ => none
def isFr : Fl → Bool
  | .fr => true
  | _ => false
/-- what a loop may go over: a caller's list by its name only, no list of one's own -/
def okIt (it : Ex) : Fl → Bool
  | .ho => false
  | .hb => (match it with
    | .v _ => true
    | _ => false)
  | _ => true
/-- a new list put into such a dict -/
def putNst (C : Cfg) (s : Slots) (O : Os) (fx : Fl) (v : D) (fv : Fl) (ky : Option Ky) : Rs := match fx, v, fv, ky with
  | .hf i f, .lst m, .fr, some y => match O[i]? with
    | some oj => match lkF f oj.fs with
      | some (.dct l) => if kFit C.gl l y ∧ l.length < sizeLine ∧ dget l y = none then .nx s (O.set i ⟨oj.c, putF f (.dct (dput l y (.own m))) oj.fs⟩) else .bad
      | _ => .bad
    | none => .bad
  | _, _, _, _ => .bad
mutual
noncomputable def exS (C : Cfg) : Sm → Slots → Os → Rs
  | .asg t e, s, O => (evE C e s O).thn s fun v fv O => match asn t v fv s with
    | some s' => .nx s' O
    | none => .bad
  | .par i j a b, s, O => (evE C a s O).thn s fun v fv O => (evE C b s O).thn s fun w fw O => match asn (.nm i) v fv s with
    | some s1 => match asn (.nm j) w fw s1 with
      | some s2 => .nx s2 O
      | none => .bad
    | none => .bad
  | .fld o f e, s, O => (evE C e s O).thn s fun v fv O => (evE C o s O).thn s fun x _ O => match x with
    | .obj n => match O[n]? with
      | some oj => match C.cls[oj.c]? with
        | some k => if oj.fs.length < 1000 ∧ f ∈ k.flds ∧ (if C.mut_ f then isFr fv && (lkF f oj.fs).isNone else fv.free) = true then .nx s (O.set n ⟨oj.c, putF f v oj.fs⟩) else .bad
        | none => .bad
      | none => .bad
    | _ => .bad
  | .sub o i e, s, O => (evE C e s O).thn s fun v fv O => (evE C o s O).thn s fun x fx O => (evE C i s O).thn s fun k fk O =>
    if nsts C fx then putNst C s O fx v fv (keyOf (cur O k fk)) else if fv.free && !isOwn v then putAt C s O o x fx (subU C.gl (keyOf (cur O k fk)) v) else .bad
  | .ex e, s, O => match e with
    | .bm b o es => (evE C o s O).thn s fun x fx O => if bmT b (cur O x fx) then (evL C es s O).thn s fun l O => (match allShr l with
      | some vs => putAt C s O o x fx fun d => bmf b d vs
      | none => .bad) else .bad
    | e => (evE C e s O).thn s fun _ _ O => .nx s O
  | .ret e, s, O => match e with
    | .v i => match s[i]? with
      | some (.sh d) => .rt d .shr O
      | some (.ow d) => .rt d .fr O
      | _ => .bad
    | e => (evE C e s O).thn s fun v fv O => if fv.free then .rt v fv O else .bad
  | .retN, _, O => .rt .non .shr O
  | .pass, s, O => .nx s O
  | .ite c a b, s, O => (evE C c s O).thn s fun v fv O => match truthy (cur O v fv) with
    | some true => exB C a s O
    | some false => exB C b s O
    | none => .bad
  | .fr t it b, s, O => (evE C it s O).thn s fun d fd O => if okIt it fd then (match iter (cur O d fd) with
    | some l => goS (stay (cur O d fd) fd) (fun x s O => match asn t x .shr s with
      | some s' => exB C b s' O
      | none => .bad) l s O
    | none => .bad) else .bad
  | .frR t es b, s, O => (evL C es s O).thn s fun vs O => match rngI (curs O vs) with
    | some l => goS (fun _ => true) (fun x s O => match asn t x .shr s with
      | some s' => exB C b s' O
      | none => .bad) l s O
    | none => .bad
  | .whl c b, s, O => C.wl fun n => goW (fun s O => evE C c s O) (fun s O => exB C b s O) n s O
  | .rse c es, s, O => (evL C es s O).thn s fun l O => match allShr l with
    | some ds => .exc c ds s O
    | none => .bad
  | .try_ b hs, s, O => match exB C b s O with
    | .exc c fs s O => exH C hs c fs s O
    | r => r
  | .tryn b, s, O => match exB C b s O with
    | .exc .. => .bad
    | r => r
  | .nvr, _, _ => .bad
  | .frz l, s, O => .nx (frzS s l) O
noncomputable def exB (C : Cfg) : List Sm → Slots → Os → Rs
  | [], s, O => .nx s O
  | st :: r, s, O => (exS C st s O).seq fun s O => exB C r s O
noncomputable def exH (C : Cfg) : List (Nat × Option Nat × List Sm) → Nat → List D → Slots → Os → Rs
  | [], c, fs, s, O => .exc c fs s O
  | (d, n, b) :: r, c, fs, s, O => if C.sub c d then (match n with
      | none => exB { C with hd := some (c, fs) } b s O
      | some i => match exB { C with hd := some (c, fs) } b (s.set i (.sh .hx)) O with
        | .nx s O => .nx (s.set i .no) O
        | .exc .. => .bad
        | r => r)
    else exH C r c fs s O
end
structure Prog where
  fns : List Fn
  gl : List Va
  cls : List Cls
  mut_ : Nat → Bool
  nst : Nat → Bool
  wl : (Nat → Rs) → Rs
def begin_ (f : Fn) (vs : List Sl) : Slots := (vs ++ (f.dv.drop (vs.length + f.dv.length - f.np)).map fun v => .sh (dOf v)) ++ List.replicate (f.ns - f.np) .no
def Rs.end_ : Rs → R
  | .nx _ O => .ok .non .shr O
  | .rt d fl O => .ok d fl O
  | .exc c fs _ O => .exc c fs O
  | .bad => .bad
noncomputable def run (P : Prog) : Nat → Nat → List Sl → Os → R
  | 0, _, _, _ => .bad
  | k + 1, f, vs, O => match P.fns[f]? with
    | some d => if vs.length ≤ d.np ∧ d.np ≤ vs.length + d.dv.length then
        (exB { run := run P k, gl := P.gl, cls := P.cls, mut_ := P.mut_, nst := P.nst, wl := P.wl } d.body (begin_ d vs) O).end_ else .bad
    | none => .bad
open Classical in
noncomputable def wlc (F : Nat → Rs) : Rs := if h : ∃ n, F n ≠ .bad then F (Classical.choose h) else .bad
end Pu
set_option Elab.async false
set_option linter.all false
set_option maxRecDepth 100000
/-! How trees lie in the store. -/
namespace Pu
open PySem (Str sizeLine PyData)
open Dl (Va Ob Store)
/-- what a cell is: nothing (any more), never changed again, held by a local, an object, a field's, a list of a field's dict -/
inductive Kd where
  | no | frz | held | obj (i : Nat) | fld (i f : Nat) | nst (i f : Nat) (y : Ky)
  deriving DecidableEq
abbrev Gk := Nat → Kd
mutual
inductive Rep (k : Gk) (h : Store) : D → Va → Prop
  | non : Rep k h .non .non
  | bl (b : Bool) : Rep k h (.bl b) (.bl b)
  | int (i : Int) : Rep k h (.int i) (.int i)
  | str (s : Str) : Rep k h (.str s) (.str s)
  | tup {ds : List D} {l : List Va} : Reps k h ds l → Rep k h (.tup ds) (.tup l)
  | lst {ds : List D} {l : List Va} {n : Nat} : k n = .frz → h[n]? = some (.lst l) → Reps k h ds l → Rep k h (.lst ds) (.ref n)
  | rl {ds : List D} {l : List Va} : Reps k h ds l → Rep k h (.rl ds) (.rl l)
  | dct {ps : List (Ky × D)} {l : List (Va × Va)} {n : Nat} : k n = .frz → h[n]? = some (.dct l) → RepP k h ps l → Rep k h (.dct ps) (.ref n)
  | obj {i n : Nat} : k n = .obj i → Rep k h (.obj i) (.ref n)
  | box {i f n : Nat} : k n = .fld i f → Rep k h (.box i f) (.ref n)
  | hx : Rep k h .hx .hx
inductive Reps (k : Gk) (h : Store) : List D → List Va → Prop
  | nil : Reps k h [] []
  | cons {d : D} {v : Va} {ds : List D} {l : List Va} : Rep k h d v → Reps k h ds l → Reps k h (d :: ds) (v :: l)
inductive RepP (k : Gk) (h : Store) : List (Ky × D) → List (Va × Va) → Prop
  | nil : RepP k h [] []
  | cons {y : Ky} {d : D} {v : Va} {ds : List (Ky × D)} {l : List (Va × Va)} : Rep k h d v → RepP k h ds l → RepP k h ((y, d) :: ds) ((y.va, v) :: l)
end
/-- entries of a field's dict: lists of its own, too -/
def RepO (k : Gk) (h : Store) (i f : Nat) (y : Ky) (d : D) (v : Va) : Prop := match d with
  | .own _ => ∃ m, v = .ref m ∧ k m = .nst i f y
  | d => Rep k h d v
inductive RepG (F : Ky → D → Va → Prop) : List (Ky × D) → List (Va × Va) → Prop
  | nil : RepG F [] []
  | cons {y : Ky} {d : D} {v : Va} {ds : List (Ky × D)} {l : List (Va × Va)} : F y d v → RepG F ds l → RepG F ((y, d) :: ds) ((y.va, v) :: l)
abbrev RepQ (k : Gk) (h : Store) (i f : Nat) := RepG (RepO k h i f)
theorem RepG.imp {F F' : Ky → D → Va → Prop} (g : ∀ y d v, F y d v → F' y d v) : ∀ {ps : List (Ky × D)} {l : List (Va × Va)}, RepG F ps l → RepG F' ps l
  | _, _, .nil => .nil
  | _, _, .cons a r => .cons (g _ _ _ a) (RepG.imp g r)
theorem RepP.toG {k : Gk} {h : Store} : ∀ {ps : List (Ky × D)} {l : List (Va × Va)}, RepP k h ps l → RepG (fun _ d v => Rep k h d v) ps l
  | _, _, .nil => .nil
  | _, _, .cons a r => .cons a (RepP.toG r)
theorem RepG.toP {k : Gk} {h : Store} : ∀ {ps : List (Ky × D)} {l : List (Va × Va)}, RepG (fun _ d v => Rep k h d v) ps l → RepP k h ps l
  | _, _, .nil => .nil
  | _, _, .cons a r => .cons a (RepG.toP r)
theorem Rep.toO {k : Gk} {h : Store} {i f : Nat} {y : Ky} {d : D} {v : Va} (r : Rep k h d v) : RepO k h i f y d v := by
  unfold RepO
  split
  · cases r
  · exact r
theorem RepP.toQ {k : Gk} {h : Store} {i f : Nat} {ps : List (Ky × D)} {l : List (Va × Va)} (r : RepP k h ps l) : RepQ k h i f ps l := r.toG.imp fun _ _ _ a => a.toO
theorem RepO.rep {k : Gk} {h : Store} {i f : Nat} {y : Ky} {d : D} {v : Va} (r : RepO k h i f y d v) (n : isOwn d = false) : Rep k h d v := by
  unfold RepO at r
  split at r
  · cases n
  · exact r
theorem RepQ.toP {k : Gk} {h : Store} {i f : Nat} : ∀ {ps : List (Ky × D)} {l : List (Va × Va)}, RepQ k h i f ps l → noOwn ps = true → RepP k h ps l
  | _, _, .nil, _ => .nil
  | _, _, .cons a r, n => by
    unfold noOwn at n
    simp only [List.all_cons, Bool.and_eq_true, Bool.not_eq_true'] at n
    exact .cons (a.rep n.1) (RepQ.toP r n.2)
structure Em (k : Gk) (h : Store) (k' : Gk) (h' : Store) : Prop where
  frz : ∀ n, k n = .frz → k' n = .frz ∧ h'[n]? = h[n]?
  obj : ∀ n i, k n = .obj i → k' n = .obj i
  fld : ∀ n i f, k n = .fld i f → k' n = .fld i f
structure Ev (k : Gk) (h : Store) (k' : Gk) (h' : Store) : Prop where
  kd : ∀ n, k n ≠ .no → k' n = k n
  st : ∀ n, k n = .frz ∨ k n = .held → h'[n]? = h[n]?
section
variable {k k' k'' : Gk} {h h' h'' : Store}
theorem Ev.em (e : Ev k h k' h') : Em k h k' h' :=
  ⟨fun n z => ⟨by rw [e.kd n (by rw [z]; exact fun w => by cases w), z], e.st n (.inl z)⟩, fun n i z => by rw [e.kd n (by rw [z]; exact fun w => by cases w), z], fun n i f z => by rw [e.kd n (by rw [z]; exact fun w => by cases w), z]⟩
theorem Ev.refl : Ev k h k h := ⟨fun _ _ => rfl, fun _ _ => rfl⟩
theorem Ev.trans (a : Ev k h k' h') (b : Ev k' h' k'' h'') : Ev k h k'' h'' := by
  refine ⟨fun n z => ?_, fun n z => ?_⟩
  · have := a.kd n z
    rw [b.kd n (by rw [this]; exact z), this]
  · have q : k' n = k n := a.kd n (by rcases z with z | z <;> (rw [z]; exact fun w => by cases w))
    rw [b.st n (by rw [q]; exact z), a.st n z]
theorem Em.refl : Em k h k h := ⟨fun _ z => ⟨z, rfl⟩, fun _ _ z => z, fun _ _ _ z => z⟩
theorem Em.trans (a : Em k h k' h') (b : Em k' h' k'' h'') : Em k h k'' h'' := by
  refine ⟨fun n z => ?_, fun n i z => b.obj n i (a.obj n i z), fun n i f z => b.fld n i f (a.fld n i f z)⟩
  obtain ⟨z1, z2⟩ := a.frz n z
  obtain ⟨w1, w2⟩ := b.frz n z1
  exact ⟨w1, w2.trans z2⟩
mutual
theorem Rep.mono (e : Em k h k' h') : ∀ {d : D} {v : Va}, Rep k h d v → Rep k' h' d v
  | _, _, .non => .non
  | _, _, .bl b => .bl b
  | _, _, .int i => .int i
  | _, _, .str s => .str s
  | _, _, .tup r => .tup (Reps.mono e r)
  | _, _, .lst a b r => .lst (e.frz _ a).1 ((e.frz _ a).2.trans b) (Reps.mono e r)
  | _, _, .rl r => .rl (Reps.mono e r)
  | _, _, .dct a b r => .dct (e.frz _ a).1 ((e.frz _ a).2.trans b) (RepP.mono e r)
  | _, _, .obj a => .obj (e.obj _ _ a)
  | _, _, .box a => .box (e.fld _ _ _ a)
  | _, _, .hx => .hx
theorem Reps.mono (e : Em k h k' h') : ∀ {d : List D} {v : List Va}, Reps k h d v → Reps k' h' d v
  | _, _, .nil => .nil
  | _, _, .cons a r => .cons (Rep.mono e a) (Reps.mono e r)
theorem RepP.mono (e : Em k h k' h') : ∀ {d : List (Ky × D)} {v : List (Va × Va)}, RepP k h d v → RepP k' h' d v
  | _, _, .nil => .nil
  | _, _, .cons a r => .cons (Rep.mono e a) (RepP.mono e r)
end
theorem RepO.mono (e : Em k h k' h') (n : ∀ m i f y, k m = .nst i f y → k' m = .nst i f y) {i f : Nat} {y : Ky} {d : D} {v : Va} (r : RepO k h i f y d v) : RepO k' h' i f y d v := by
  unfold RepO at r ⊢
  split at r
  · obtain ⟨m, a, b⟩ := r
    exact ⟨m, a, n _ _ _ _ b⟩
  · exact r.mono e
theorem RepQ.mono (e : Em k h k' h') (n : ∀ m i f y, k m = .nst i f y → k' m = .nst i f y) {i f : Nat} {d : List (Ky × D)} {v : List (Va × Va)} (r : RepQ k h i f d v) : RepQ k' h' i f d v := r.imp fun _ _ _ a => a.mono e n
/-! lists of values -/
theorem Reps.length : ∀ {ds : List D} {l : List Va}, Reps k h ds l → ds.length = l.length
  | _, _, .nil => rfl
  | _, _, .cons _ r => by simp [Reps.length r]
theorem Reps.get : ∀ {ds : List D} {l : List Va} {i : Nat} {d : D}, Reps k h ds l → ds[i]? = some d → ∃ v, l[i]? = some v ∧ Rep k h d v
  | _, _, _, _, .nil, e => by simp at e
  | _, _, 0, _, .cons a _, e => by simp at e; subst e; exact ⟨_, rfl, a⟩
  | _, _, i + 1, _, .cons _ r, e => by
    obtain ⟨w, h1, h2⟩ := Reps.get (i := i) r (by simpa using e)
    exact ⟨w, by simpa using h1, h2⟩
theorem Reps.append : ∀ {ds es : List D} {l m : List Va}, Reps k h ds l → Reps k h es m → Reps k h (ds ++ es) (l ++ m)
  | _, _, _, _, .nil, s => s
  | _, _, _, _, .cons a r, s => .cons a (Reps.append r s)
theorem Reps.take : ∀ {ds : List D} {l : List Va} (n : Nat), Reps k h ds l → Reps k h (ds.take n) (l.take n)
  | _, _, 0, _ => by simp; exact .nil
  | _, _, _ + 1, .nil => .nil
  | _, _, n + 1, .cons a r => .cons a (Reps.take n r)
theorem Reps.drop : ∀ {ds : List D} {l : List Va} (n : Nat), Reps k h ds l → Reps k h (ds.drop n) (l.drop n)
  | _, _, 0, r => r
  | _, _, _ + 1, .nil => .nil
  | _, _, n + 1, .cons _ r => Reps.drop n r
theorem Reps.rev : ∀ {ds : List D} {l : List Va}, Reps k h ds l → Reps k h ds.reverse l.reverse
  | _, _, .nil => .nil
  | _, _, .cons a r => by
    rw [List.reverse_cons, List.reverse_cons]
    exact Reps.append (Reps.rev r) (.cons a .nil)
theorem Reps.cut {ds : List D} {l : List Va} (lo hi : Option Int) (r : Reps k h ds l) : Reps k h (Dl.cut ds lo hi) (Dl.cut l lo hi) := by
  unfold Dl.cut
  rw [r.length]
  exact (r.drop _).take _
theorem Reps.atI {ds : List D} {l : List Va} {i : Int} {d : D} (r : Reps k h ds l) (e : Dl.atI ds i = some d) : ∃ v, Dl.atI l i = some v ∧ Rep k h d v := by
  unfold Dl.atI at e ⊢
  rw [← r.length]
  cases q : Dl.ixN ds.length i with
  | none => rw [q] at e; cases e
  | some j => rw [q] at e; exact r.get e
/-! values without references -/
theorem allO_cons {α : Type} {x : Option α} {xs : List (Option α)} {l : List α} (e : Dl.allO (x :: xs) = some l) : ∃ y ys, x = some y ∧ Dl.allO xs = some ys ∧ l = y :: ys := by
  unfold Dl.allO at e
  cases x with
  | none => cases e
  | some y =>
    cases q : Dl.allO xs with
    | none => rw [q] at e; cases e
    | some ys => rw [q] at e; cases e; exact ⟨y, ys, rfl, rfl, rfl⟩
theorem allO_nil {α : Type} {l : List α} (e : Dl.allO ([] : List (Option α)) = some l) : l = [] := by
  unfold Dl.allO at e
  cases e
  rfl
theorem vaOf_eq : ∀ (n : Nat) {d : D} {v w : Va}, Rep k h d v → vaOf n d = some w → w = v
  | n, .non, _, _, .non, e => by unfold vaOf at e; cases e; rfl
  | n, .bl b, _, _, .bl _, e => by unfold vaOf at e; cases e; rfl
  | n, .int b, _, _, .int _, e => by unfold vaOf at e; cases e; rfl
  | n, .str b, _, _, .str _, e => by unfold vaOf at e; cases e; rfl
  | n + 1, .tup ds, _, _, .tup (l := l) r, e => by
    unfold vaOf at e
    cases q : Dl.allO (ds.map (vaOf n)) with
    | none => rw [q] at e; cases e
    | some ws =>
      rw [q] at e
      cases e
      have key : ∀ {ds : List D} {l ws : List Va}, Reps k h ds l → Dl.allO (ds.map (vaOf n)) = some ws → ws = l := fun {ds} => by
        induction ds with
        | nil => intro l ws r e; cases r; exact allO_nil e
        | cons d ds ih =>
          intro l ws r e
          cases r with
          | cons a r =>
            obtain ⟨y, ys, h1, h2, rfl⟩ := allO_cons e
            rw [vaOf_eq n a h1, ih r h2]
      rw [key r q]
  | 0, .tup ds, _, _, _, e => by unfold vaOf at e; cases e
  | n, .lst ds, _, _, _, e => by unfold vaOf at e; cases e
  | n, .rl ds, _, _, _, e => by unfold vaOf at e; cases e
  | n, .dct ds, _, _, _, e => by unfold vaOf at e; cases e
  | n, .obj ds, _, _, _, e => by unfold vaOf at e; cases e
  | n, .box _ _, _, _, _, e => by unfold vaOf at e; cases e
  | n, .hx, _, _, _, e => by unfold vaOf at e; cases e
theorem vaOfs_eq (n : Nat) : ∀ {ds : List D} {l ws : List Va}, Reps k h ds l → Dl.allO (ds.map (vaOf n)) = some ws → ws = l
  | [], _, _, .nil, e => allO_nil e
  | d :: ds, _, _, .cons a r, e => by
    obtain ⟨y, ys, h1, h2, rfl⟩ := allO_cons e
    rw [vaOf_eq n a h1, vaOfs_eq n r h2]
mutual
/-- a value that a constant can be -/
def plainV : Va → Bool
  | .non => true
  | .bl _ => true
  | .int _ => true
  | .str _ => true
  | .tup l => plainVs l
  | _ => false
def plainVs : List Va → Bool
  | [] => true
  | v :: l => plainV v && plainVs l
end
mutual
theorem rep_dOf : ∀ v : Va, plainV v = true → Rep k h (dOf v) v
  | .non, _ => by unfold dOf; exact .non
  | .bl _, _ => by unfold dOf; exact .bl _
  | .int _, _ => by unfold dOf; exact .int _
  | .str _, _ => by unfold dOf; exact .str _
  | .tup l, e => by unfold dOf; exact .tup (rep_dOfs l (by unfold plainV at e; exact e))
  | .ref _, e => by unfold plainV at e; cases e
  | .rl _, e => by unfold plainV at e; cases e
  | .hx, e => by unfold plainV at e; cases e
theorem rep_dOfs : ∀ v : List Va, plainVs v = true → Reps k h (dOfs v) v
  | [], _ => by unfold dOfs; exact .nil
  | v :: l, e => by
    unfold plainVs at e
    rw [Bool.and_eq_true] at e
    unfold dOfs
    exact .cons (rep_dOf v e.1) (rep_dOfs l e.2)
end
theorem vaOf_plain : ∀ (n : Nat) {d : D} {w : Va}, vaOf n d = some w → plainV w = true
  | n, .non, _, e => by unfold vaOf at e; cases e; rfl
  | n, .bl b, _, e => by unfold vaOf at e; cases e; rfl
  | n, .int b, _, e => by unfold vaOf at e; cases e; rfl
  | n, .str b, _, e => by unfold vaOf at e; cases e; rfl
  | n + 1, .tup ds, _, e => by
    unfold vaOf at e
    cases q : Dl.allO (ds.map (vaOf n)) with
    | none => rw [q] at e; cases e
    | some ws =>
      rw [q] at e
      cases e
      unfold plainV
      have key : ∀ {ds : List D} {ws : List Va}, Dl.allO (ds.map (vaOf n)) = some ws → plainVs ws = true := fun {ds} => by
        induction ds with
        | nil => intro ws e; rw [allO_nil e]; rfl
        | cons d ds ih =>
          intro ws e
          obtain ⟨y, ys, h1, h2, rfl⟩ := allO_cons e
          unfold plainVs
          rw [vaOf_plain n h1, ih h2]
          rfl
      exact key q
  | 0, .tup ds, _, e => by unfold vaOf at e; cases e
  | n, .lst ds, _, e => by unfold vaOf at e; cases e
  | n, .rl ds, _, e => by unfold vaOf at e; cases e
  | n, .dct ds, _, e => by unfold vaOf at e; cases e
  | n, .obj ds, _, e => by unfold vaOf at e; cases e
  | n, .box _ _, _, e => by unfold vaOf at e; cases e
  | n, .own _, _, e => by unfold vaOf at e; cases e
  | n, .hx, _, e => by unfold vaOf at e; cases e
theorem plainVs_all : ∀ {l : List Va}, plainVs l = true ↔ ∀ v ∈ l, plainV v = true
  | [] => by simp [plainVs]
  | v :: l => by simp [plainVs, plainVs_all (l := l)]
theorem vaOfs_plain (n : Nat) : ∀ {ds : List D} {ws : List Va}, Dl.allO (ds.map (vaOf n)) = some ws → plainVs ws = true
  | [], _, e => by rw [allO_nil e]; rfl
  | d :: ds, _, e => by
    obtain ⟨y, ys, h1, h2, rfl⟩ := allO_cons e
    unfold plainVs
    rw [vaOf_plain n h1, vaOfs_plain n h2]
    rfl
/-- a plain value's data does not ask the store -/
theorem dat_plain : ∀ (n : Nat) (v : Va), plainV v = true → Dl.dat h n v = Dl.dat h' n v
  | n, .non, _ => by unfold Dl.dat; rfl
  | n, .bl _, _ => by unfold Dl.dat; rfl
  | n, .int _, _ => by unfold Dl.dat; rfl
  | n, .str _, _ => by unfold Dl.dat; rfl
  | 0, .tup l, _ => by unfold Dl.dat; rfl
  | n + 1, .tup l, e => by
    unfold plainV at e
    unfold Dl.dat
    have : l.map (Dl.dat h n) = l.map (Dl.dat h' n) := List.map_congr_left fun v hv => dat_plain n v (plainVs_all.mp e v hv)
    rw [this]
  | _, .ref _, e => by unfold plainV at e; cases e
  | _, .rl _, e => by unfold plainV at e; cases e
  | _, .hx, e => by unfold plainV at e; cases e
theorem rep_plain_at : ∀ {a : At}, Rep k h a.d a.va
  | .i n => .int n
  | .s x => .str x
theorem reps_plain_at : ∀ {l : List At}, Reps k h (l.map At.d) (l.map At.va)
  | [] => .nil
  | a :: l => .cons rep_plain_at reps_plain_at
theorem rep_ky : ∀ {y : Ky}, Rep k h y.d y.va
  | .a x => rep_plain_at
  | .t l => .tup reps_plain_at
/-- a value as a key is itself -/
theorem atOf_eq {d : D} {v : Va} {a : At} (r : Rep k h d v) (e : atOf d = some a) : v = a.va := by
  cases r <;> (unfold atOf at e; first | (cases e; done) | (cases e; rfl))
theorem atOfs_eq : ∀ {ds : List D} {l : List Va} {as : List At}, Reps k h ds l → Dl.allO (ds.map atOf) = some as → l = as.map At.va
  | [], _, _, .nil, e => by rw [allO_nil e]; rfl
  | d :: ds, _, _, .cons a r, e => by
    obtain ⟨y, ys, h1, h2, rfl⟩ := allO_cons e
    rw [List.map_cons, ← atOf_eq a h1, ← atOfs_eq r h2]
theorem keyOf_eq {d : D} {v : Va} {y : Ky} (r : Rep k h d v) (e : keyOf d = some y) : v = y.va := by
  cases r <;> (unfold keyOf at e; first | (cases e; done) | (cases e; rfl) | skip)
  rename_i ds l r
  dsimp only at e
  cases q : Dl.allO (ds.map atOf) with
  | none => rw [q] at e; cases e
  | some as =>
    rw [q] at e
    cases e
    unfold Ky.va
    rw [atOfs_eq r q]
theorem at_inj : ∀ {a b : At}, a.va = b.va → a = b
  | .i _, .i _, e => by unfold At.va at e; cases e; rfl
  | .s _, .s _, e => by unfold At.va at e; cases e; rfl
  | .i _, .s _, e => by unfold At.va at e; cases e
  | .s _, .i _, e => by unfold At.va at e; cases e
theorem ats_inj : ∀ {a b : List At}, a.map At.va = b.map At.va → a = b
  | [], [], _ => rfl
  | [], _ :: _, e => by simp at e
  | _ :: _, [], e => by simp at e
  | a :: as, b :: bs, e => by
    simp only [List.map_cons, List.cons.injEq] at e
    rw [at_inj e.1, ats_inj e.2]
theorem at_tup {a : At} {l : List Va} : ¬ a.va = .tup l := by cases a <;> (unfold At.va; exact fun e => by cases e)
theorem ky_inj : ∀ {a b : Ky}, a.va = b.va → a = b
  | .a x, .a y, e => by rw [at_inj (show x.va = y.va from e)]
  | .t x, .t y, e => by
    have : x.map At.va = y.map At.va := by unfold Ky.va at e; exact Va.tup.inj e
    rw [ats_inj this]
  | .a x, .t y, e => absurd e at_tup
  | .t x, .a y, e => absurd e.symm at_tup
theorem kOk_ky {y : Ky} : Dl.kOk y.va = y.isA := by
  cases y with
  | a x => cases x <;> rfl
  | t l => rfl
theorem kTup_ky {gl : List Va} {y : Ky} : Dl.kTup gl y.va = y.isT gl := by
  cases y with
  | a x => cases x <;> rfl
  | t l =>
    show ((l.map At.va).all Dl.kOk && decide (Va.tup (l.map At.va) ∉ gl)) = _
    have : (l.map At.va).all Dl.kOk = true := by
      rw [List.all_map, List.all_eq_true]
      intro a _
      cases a <;> rfl
    rw [this, Bool.true_and]
    rfl
end
end Pu
set_option Elab.async false
set_option linter.all false
set_option maxRecDepth 100000
set_option maxHeartbeats 4000000
/-! Operators of trees, as the store's values have them. -/
namespace Pu
open PySem (Str sizeLine PyData)
open Dl (Va Ob Store Bop Cop Bi Bm Tyk)
/-- a value as it stands now, whoever holds it -/
def Vw (k : Gk) (h : Store) (d : D) (v : Va) : Prop := match d with
  | .lst ds => ∃ n l, v = .ref n ∧ h[n]? = some (.lst l) ∧ Reps k h ds l
  | .dct ps => ∃ n l i f, v = .ref n ∧ h[n]? = some (.dct l) ∧ RepQ k h i f ps l
  | d => Rep k h d v
def RC (k : Gk) (h : Store) (d : D) (o : Ob) : Prop := match d, o with
  | .lst ds, .lst l => Reps k h ds l
  | .dct ps, .dct l => RepP k h ps l
  | _, _ => False
/-- what an operation gives -/
def OpOk (k : Gk) (h : Store) (d : D) (b : Bool) (r : Dl.R) : Prop :=
  (b = false ∧ ∃ v, r = .ok v h ∧ Rep k h d v) ∨ (b = true ∧ ∃ ob, r = .ok (.ref h.length) (h ++ [ob]) ∧ RC k h d ob)
section
variable {k : Gk} {h : Store} {gl : List Va}
theorem Rep.vw {d : D} {v : Va} (r : Rep k h d v) : Vw k h d v := by
  cases r with
  | lst a b c => exact ⟨_, _, rfl, b, c⟩
  | rl c => exact .rl c
  | dct a b c => exact ⟨_, _, 0, 0, rfl, b, c.toQ⟩
  | non => exact .non
  | bl b => exact .bl b
  | int i => exact .int i
  | str s => exact .str s
  | tup r => exact .tup r
  | obj a => exact .obj a
  | box a => exact .box a
  | hx => exact .hx
theorem Vw.int {i : Int} {v : Va} (r : Vw k h (.int i) v) : v = .int i := by cases (show Rep k h (.int i) v from r); rfl
theorem Vw.str {i : Str} {v : Va} (r : Vw k h (.str i) v) : v = .str i := by cases (show Rep k h (.str i) v from r); rfl
theorem Vw.bl {i : Bool} {v : Va} (r : Vw k h (.bl i) v) : v = .bl i := by cases (show Rep k h (.bl i) v from r); rfl
theorem Vw.non {v : Va} (r : Vw k h .non v) : v = .non := by cases (show Rep k h .non v from r); rfl
theorem Vw.tup {ds : List D} {v : Va} (r : Vw k h (.tup ds) v) : ∃ l, v = .tup l ∧ Reps k h ds l := by cases (show Rep k h (.tup ds) v from r); exact ⟨_, rfl, by assumption⟩
theorem Vw.obj {i : Nat} {v : Va} (r : Vw k h (.obj i) v) : ∃ n, v = .ref n ∧ k n = .obj i := by cases (show Rep k h (.obj i) v from r); exact ⟨_, rfl, by assumption⟩
theorem Vw.hx {v : Va} (r : Vw k h .hx v) : v = .hx := by cases (show Rep k h .hx v from r); rfl
theorem rd_of {n : Nat} {l : List Va} (e : h[n]? = some (.lst l)) : Dl.rd h n = some l := by unfold Dl.rd; rw [e]
theorem binop_ok {o : Bop} {x y d : D} {b : Bool} {u w : Va} (e : binop o x y = some (d, b)) (r : Vw k h x u) (q : Vw k h y w) : OpOk k h d b (Dl.binop o h u w) := by
  unfold binop at e
  split at e
  · rw [r.int, q.int]
    unfold Dl.binop
    cases o <;> dsimp only at e ⊢
    · cases e; exact .inl ⟨rfl, _, rfl, .int _⟩
    · cases e; exact .inl ⟨rfl, _, rfl, .int _⟩
    all_goals
      split at e
      · rename_i z
        cases e
        rw [if_pos z]
        exact .inl ⟨rfl, _, rfl, .int _⟩
      · cases e
  · rw [r.str, q.str]
    unfold Dl.binop
    cases o <;> dsimp only at e ⊢ <;> first | (cases e; done) | skip
    split at e
    · rename_i z
      cases e
      rw [if_pos z]
      exact .inl ⟨rfl, _, rfl, .str _⟩
    · cases e
  · rw [r.str, q.int]
    unfold Dl.binop
    cases o <;> dsimp only at e ⊢ <;> first | (cases e; done) | skip
    split at e
    · rename_i z
      cases e
      rw [if_pos z]
      exact .inl ⟨rfl, _, rfl, .str _⟩
    · rename_i z
      rw [if_neg z]
      split at e
      · rename_i z
        cases e
        rw [if_pos z]
        exact .inl ⟨rfl, _, rfl, .str _⟩
      · cases e
  · obtain ⟨l, rfl, r1⟩ := r.tup
    obtain ⟨m, rfl, q1⟩ := q.tup
    unfold Dl.binop
    cases o <;> dsimp only at e ⊢ <;> first | (cases e; done) | skip
    rename_i ds es
    split at e
    · rename_i z
      cases e
      have n1 : l ≠ [] := fun z1 => by subst z1; cases r1; exact z.1 rfl
      have n2 : m ≠ [] := fun z1 => by subst z1; cases q1; exact z.2.1 rfl
      rw [if_pos ⟨n1, n2, by rw [← r1.length, ← q1.length]; exact z.2.2⟩]
      exact .inl ⟨rfl, _, rfl, .tup (r1.append q1)⟩
    · cases e
  · cases o <;> dsimp only at e ⊢ <;> first | (cases e; done) | skip
    rename_i ds es
    split at e
    · rename_i z
      cases e
      obtain ⟨n, l, rfl, en, r1⟩ := r
      obtain ⟨n2, m, rfl, en2, q1⟩ := q
      unfold Dl.binop
      dsimp only
      rw [rd_of en, rd_of en2]
      dsimp only
      rw [if_pos (by rw [← r1.length, ← q1.length]; assumption)]
      exact .inr ⟨rfl, _, rfl, r1.append q1⟩
    · cases e
  · cases e
theorem Vw.rl {ds : List D} {v : Va} (r : Vw k h (.rl ds) v) : ∃ l, v = .rl l ∧ Reps k h ds l := by cases (show Rep k h (.rl ds) v from r); exact ⟨_, rfl, by assumption⟩
/-! equality -/
theorem plain2_some {x y : D} {a b u w : Va} (e : plain2 x y = some (a, b)) (r : Vw k h x u) (q : Vw k h y w) : u = a ∧ w = b ∧ Dl.plainEq a b = true := by
  unfold plain2 at e
  split at e <;> first | (cases e; done) | skip
  all_goals
    cases e
    exact ⟨by first | exact r.int | exact r.str | exact r.bl | exact r.non, by first | exact q.int | exact q.str | exact q.bl | exact q.non, rfl⟩
theorem Vw.flat {d : D} {v : Va} (r : Vw k h d v) : (fl? d = some v ∧ Dl.flat v = true) ∨ (fl? d = none ∧ Dl.flat v = false) := by
  cases d with
  | non => rw [r.non]; exact .inl ⟨rfl, rfl⟩
  | bl => rw [r.bl]; exact .inl ⟨rfl, rfl⟩
  | int => rw [r.int]; exact .inl ⟨rfl, rfl⟩
  | str => rw [r.str]; exact .inl ⟨rfl, rfl⟩
  | tup => obtain ⟨l, rfl, _⟩ := r.tup; exact .inr ⟨rfl, rfl⟩
  | lst => obtain ⟨_, _, rfl, _⟩ := r; exact .inr ⟨rfl, rfl⟩
  | dct => obtain ⟨_, _, _, _, rfl, _⟩ := r; exact .inr ⟨rfl, rfl⟩
  | obj => cases (show Rep k h _ v from r); exact .inr ⟨rfl, rfl⟩
  | hx => cases (show Rep k h _ v from r); exact .inr ⟨rfl, rfl⟩
  | own => cases (show Rep k h _ v from r)
  | box => cases (show Rep k h _ v from r); exact .inr ⟨rfl, rfl⟩
  | rl => cases (show Rep k h _ v from r); exact .inr ⟨rfl, rfl⟩
theorem plainEq_flat {u w : Va} (e : Dl.plainEq u w = true) : Dl.flat u = true ∧ Dl.flat w = true := by
  cases u <;> cases w <;> first | exact ⟨rfl, rfl⟩ | (cases e; done)
theorem plain2_none {x y : D} {u w : Va} (e : plain2 x y = none) (r : Vw k h x u) (q : Vw k h y w) : Dl.plainEq u w = false := by
  by_cases z : Dl.plainEq u w = true
  · obtain ⟨z1, z2⟩ := plainEq_flat z
    rcases r.flat with ⟨r1, _⟩ | ⟨_, r2⟩
    · rcases q.flat with ⟨q1, _⟩ | ⟨_, q2⟩
      · cases x <;> first | (cases r1; done) | skip
        all_goals cases y <;> first | (cases q1; done) | (cases e; done) | skip
        all_goals
          cases r1
          cases q1
          cases z
      · rw [q2] at z2; cases z2
    · rw [r2] at z1; cases z1
  · simpa using z
theorem dat_reps {n : Nat} (ih : ∀ {d : D} {v : Va} {p : PyData}, Rep k h d v → dat n d = some p → Dl.dat h n v = some p) : ∀ {ds : List D} {l : List Va} {ps : List PyData}, Reps k h ds l → Dl.allO (ds.map (dat n)) = some ps → Dl.allO (l.map (Dl.dat h n)) = some ps
  | [], _, _, .nil, e => e
  | d :: ds, _, _, .cons a r, e => by
    obtain ⟨y, ys, h1, h2, rfl⟩ := allO_cons e
    rw [List.map_cons, ih a h1]
    unfold Dl.allO
    rw [dat_reps ih r h2]
theorem dat_ok : ∀ (n : Nat) {d : D} {v : Va} {p : PyData}, Vw k h d v → dat n d = some p → Dl.dat h n v = some p
  | n, .non, _, _, r, e => by rw [r.non]; unfold dat at e; unfold Dl.dat; exact e
  | n, .bl _, _, _, r, e => by rw [r.bl]; unfold dat at e; unfold Dl.dat; exact e
  | n, .int _, _, _, r, e => by rw [r.int]; unfold dat at e; unfold Dl.dat; exact e
  | n, .str _, _, _, r, e => by rw [r.str]; unfold dat at e; unfold Dl.dat; exact e
  | 0, .tup _, _, _, r, e => by unfold dat at e; cases e
  | 0, .lst _, _, _, r, e => by unfold dat at e; cases e
  | 0, .rl _, _, _, r, e => by unfold dat at e; cases e
  | n + 1, .tup ds, _, _, r, e => by
    obtain ⟨l, rfl, r1⟩ := r.tup
    unfold dat at e
    unfold Dl.dat
    cases q : Dl.allO (ds.map (dat n)) with
    | none => rw [q] at e; cases e
    | some ps =>
      rw [q] at e
      rw [dat_reps (fun r e => dat_ok n r.vw e) r1 q]
      exact e
  | n + 1, .rl ds, _, _, r, e => by
    obtain ⟨l, rfl, r1⟩ := r.rl
    unfold dat at e
    unfold Dl.dat
    cases q : Dl.allO (ds.map (dat n)) with
    | none => rw [q] at e; cases e
    | some ps =>
      rw [q] at e
      rw [dat_reps (fun r e => dat_ok n r.vw e) r1 q]
      exact e
  | n + 1, .lst ds, _, _, ⟨m, l, hv, en, r⟩, e => by
    rw [hv]
    unfold dat at e
    unfold Dl.dat
    rw [rd_of en]
    dsimp only
    cases q : Dl.allO (ds.map (dat n)) with
    | none => rw [q] at e; cases e
    | some ps =>
      rw [q] at e
      rw [dat_reps (fun r e => dat_ok n r.vw e) r q]
      exact e
  | n, .dct _, _, _, r, e => by unfold dat at e; cases e
  | n, .obj _, _, _, r, e => by unfold dat at e; cases e
  | n, .box _ _, _, _, r, e => by unfold dat at e; cases e
  | n, .own _, _, _, r, e => by unfold dat at e; cases e
  | n, .hx, _, _, r, e => by unfold dat at e; cases e
theorem eqq_ok {x y : D} {u w : Va} {c : Bool} (e : eqq x y = some c) (r : Vw k h x u) (q : Vw k h y w) : Dl.eqq h u w = some c := by
  unfold eqq at e
  unfold Dl.eqq
  split at e
  · rename_i a b z
    obtain ⟨rfl, rfl, z2⟩ := plain2_some z r q
    rw [if_pos z2]
    exact e
  · rename_i z
    rw [if_neg (by rw [plain2_none z r q]; exact Bool.false_ne_true)]
    split at e
    · rename_i d1 d2 z1 z2
      rw [dat_ok 20 r z1, dat_ok 20 q z2]
      exact e
    · cases e
theorem truthy_ok {d : D} {v : Va} {b : Bool} (e : truthy d = some b) (r : Vw k h d v) : Dl.truthy h v = some b := by
  unfold truthy at e
  unfold Dl.truthy
  split at e
  · rw [r.non]; exact e
  · rw [r.bl]; exact e
  · rw [r.int]; exact e
  · rw [r.str]; exact e
  · obtain ⟨l, rfl, r1⟩ := r.tup
    cases r1 <;> exact e
  · obtain ⟨n, l, rfl, en, r⟩ := r
    dsimp only
    rw [en]
    cases r <;> exact e
  · obtain ⟨l, rfl, r1⟩ := r.rl
    cases r1 <;> exact e
  · cases e
/-! dicts -/
theorem RepG.find {F : Ky → D → Va → Prop} {y : Ky} : ∀ {ps : List (Ky × D)} {l : List (Va × Va)}, RepG F ps l → (∀ d, dget ps y = some d → ∃ v, Dl.dget l y.va = some v ∧ F y d v) ∧ (dget ps y = none → Dl.dget l y.va = none)
  | _, _, .nil => ⟨fun d e => (by cases e), fun _ => rfl⟩
  | _, _, .cons (y := z) (d := d1) (v := v1) (ds := ds) (l := l) a r => by
    have ih := RepG.find (y := y) r
    unfold dget Dl.dget at ih ⊢
    by_cases c : z = y
    · subst c
      simp only [List.find?_cons, decide_true, Option.map_some]
      exact ⟨fun d e => ⟨_, rfl, by cases e; exact a⟩, fun e => by cases e⟩
    · have c2 : ¬ z.va = y.va := fun e => c (ky_inj e)
      simp only [List.find?_cons, decide_eq_false c, decide_eq_false c2]
      exact ih
theorem RepG.get {F : Ky → D → Va → Prop} {y : Ky} {ps : List (Ky × D)} {l : List (Va × Va)} {d : D} (r : RepG F ps l) (e : dget ps y = some d) : ∃ v, Dl.dget l y.va = some v ∧ F y d v := r.find.1 d e
theorem RepG.isSome {F : Ky → D → Va → Prop} {y : Ky} {ps : List (Ky × D)} {l : List (Va × Va)} (r : RepG F ps l) : (Dl.dget l y.va).isSome = (dget ps y).isSome := by
  cases q : dget ps y with
  | none => rw [r.find.2 q]; rfl
  | some d => obtain ⟨v, e, _⟩ := r.get q; rw [e]; rfl
theorem RepG.len {F : Ky → D → Va → Prop} : ∀ {ps : List (Ky × D)} {l : List (Va × Va)}, RepG F ps l → ps.length = l.length
  | _, _, .nil => rfl
  | _, _, .cons _ r => by simp [RepG.len r]
theorem RepG.all {F : Ky → D → Va → Prop} {f : Ky → Bool} {g : Va → Bool} (fg : ∀ y : Ky, g y.va = f y) : ∀ {ps : List (Ky × D)} {l : List (Va × Va)}, RepG F ps l → (l.all fun p => g p.1) = ps.all fun p => f p.1
  | _, _, .nil => rfl
  | _, _, .cons _ r => by
    simp only [List.all_cons, fg]
    rw [RepG.all fg r]
theorem RepG.any {F : Ky → D → Va → Prop} {y : Ky} : ∀ {ps : List (Ky × D)} {l : List (Va × Va)}, RepG F ps l → (l.any fun p => decide (p.1 = y.va)) = ps.any fun p => decide (p.1 = y)
  | _, _, .nil => rfl
  | _, _, .cons (y := z) _ r => by
    simp only [List.any_cons]
    rw [RepG.any r]
    congr 1
    by_cases c : z = y
    · subst c; simp
    · have c2 : ¬ z.va = y.va := fun e => c (ky_inj e)
      simp [c, c2]
theorem RepG.append {F : Ky → D → Va → Prop} : ∀ {ps qs : List (Ky × D)} {l m : List (Va × Va)}, RepG F ps l → RepG F qs m → RepG F (ps ++ qs) (l ++ m)
  | _, _, _, _, .nil, s => s
  | _, _, _, _, .cons a r, s => .cons a (RepG.append r s)
theorem RepG.put {F : Ky → D → Va → Prop} {y : Ky} {d : D} {v : Va} {ps : List (Ky × D)} {l : List (Va × Va)} (r : RepG F ps l) (a : F y d v) : RepG F (dput ps y d) (Dl.dput l y.va v) := by
  unfold dput Dl.dput
  rw [r.any]
  split
  · have key : ∀ {ps : List (Ky × D)} {l : List (Va × Va)}, RepG F ps l → RepG F (ps.map fun p => if p.1 = y then (p.1, d) else p) (l.map fun p => if p.1 = y.va then (p.1, v) else p) := fun {ps} => by
      induction ps with
      | nil => intro l r; cases r; exact .nil
      | cons p ps ih =>
        intro l r
        cases r with
        | cons b r =>
          rename_i z d1 v1 l
          rw [List.map_cons, List.map_cons]
          by_cases c : z = y
          · subst c
            rw [if_pos rfl, if_pos rfl]
            exact .cons a (ih r)
          · rw [if_neg c, if_neg (fun e => c (ky_inj e))]
            exact .cons b (ih r)
    exact key r
  · exact r.append (.cons a .nil)
theorem RepG.fit {F : Ky → D → Va → Prop} {y : Ky} {ps : List (Ky × D)} {l : List (Va × Va)} (r : RepG F ps l) : Dl.kFit gl l y.va = kFit gl ps y := by
  unfold kFit Dl.kFit
  rw [kOk_ky, kTup_ky, r.all (f := Ky.isA) (g := Dl.kOk) fun _ => kOk_ky, r.all (f := Ky.isT gl) (g := Dl.kTup gl) fun _ => kTup_ky]
theorem keyOf_vw {d : D} {v : Va} {y : Ky} (r : Vw k h d v) (e : keyOf d = some y) : v = y.va := by
  cases d with
  | int => exact keyOf_eq (show Rep k h _ v from r) e
  | str => exact keyOf_eq (show Rep k h _ v from r) e
  | tup => exact keyOf_eq (show Rep k h _ v from r) e
  | _ => unfold keyOf at e; cases e
/-! in -/
theorem fl_eq {d : D} {v w : Va} (e : fl? d = some w) (r : Vw k h d v) : v = w ∧ Dl.flat w = true := by
  rcases r.flat with ⟨r1, r2⟩ | ⟨r1, _⟩
  · rw [e] at r1
    cases r1
    exact ⟨rfl, r2⟩
  · rw [e] at r1
    cases r1
theorem fls_eq : ∀ {ds : List D} {l ws : List Va}, Dl.allO (ds.map fl?) = some ws → Reps k h ds l → l = ws ∧ ws.all Dl.flat = true
  | [], _, _, e, .nil => by rw [allO_nil e]; exact ⟨rfl, rfl⟩
  | d :: ds, _, _, e, .cons a r => by
    obtain ⟨y, ys, h1, h2, rfl⟩ := allO_cons e
    obtain ⟨rfl, e1⟩ := fl_eq h1 a.vw
    obtain ⟨rfl, e2⟩ := fls_eq h2 r
    exact ⟨rfl, by rw [List.all_cons, e1, e2]; rfl⟩
theorem inn_ok {x y : D} {u w : Va} {c : Bool} (e : inn gl x y = some c) (r : Vw k h x u) (q : Vw k h y w) : Dl.inn gl h u w = some c := by
  unfold inn at e
  unfold Dl.inn
  split at e
  · rw [q.str]
    dsimp only
    split at e
    · rw [r.str]
      exact e
    · cases e
  · obtain ⟨n, l, i, f, rfl, en, q⟩ := q
    dsimp only
    rw [en]
    dsimp only
    split at e
    · rename_i y z
      rw [keyOf_vw r z, q.fit, q.isSome]
      exact e
    · cases e
  · obtain ⟨n, l, rfl, en, q⟩ := q
    dsimp only
    rw [en]
    dsimp only
    split at e
    · rename_i v vs z1 z2
      obtain ⟨rfl, e1⟩ := fl_eq z1 r
      obtain ⟨rfl, e2⟩ := fls_eq z2 q
      rw [if_pos (by rw [e1, e2]; rfl)]
      exact e
    · cases e
  · obtain ⟨l, rfl, q1⟩ := q.tup
    dsimp only
    split at e
    · rename_i v vs z1 z2
      obtain ⟨rfl, e1⟩ := fl_eq z1 r
      obtain ⟨rfl, e2⟩ := fls_eq z2 q1
      rw [if_pos (by rw [e1, e2]; rfl)]
      exact e
    · cases e
  · cases e
theorem isN_ok {d : D} {v : Va} (r : Vw k h d v) : decide (v = .non) = isN d := by
  rcases r.flat with ⟨r1, _⟩ | ⟨r1, r2⟩
  · cases d <;> first | (cases r1; done) | skip
    all_goals
      cases r1
      rfl
  · have n1 : ¬ v = .non := fun z => by rw [z] at r2; cases r2
    rw [decide_eq_false n1]
    cases d <;> first | rfl | (cases r1; done)
theorem cmpo_ok {o : Cop} {x y : D} {u w : Va} {c : Bool} (e : cmpo gl o x y = some c) (r : Vw k h x u) (q : Vw k h y w) : Dl.cmpo gl o h u w = some c := by
  unfold cmpo at e
  unfold Dl.cmpo
  cases o with
  | eq => exact eqq_ok e r q
  | ne =>
    dsimp only at e ⊢
    cases z : eqq x y with
    | none => rw [z] at e; cases e
    | some b => rw [z] at e; rw [eqq_ok z r q]; exact e
  | inn => exact inn_ok e r q
  | nin =>
    dsimp only at e ⊢
    cases z : inn gl x y with
    | none => rw [z] at e; cases e
    | some b => rw [z] at e; rw [inn_ok z r q]; exact e
  | isN =>
    dsimp only at e ⊢
    have h1 := isN_ok r
    have h2 := isN_ok q
    split at e
    · rename_i z
      rw [z] at h2
      rw [if_pos (of_decide_eq_true h2), h1]
      exact e
    · cases e
  | notN =>
    dsimp only at e ⊢
    have h1 := isN_ok r
    have h2 := isN_ok q
    split at e
    · rename_i z
      rw [z] at h2
      rw [if_pos (of_decide_eq_true h2), h1]
      exact e
    · cases e
  | _ =>
    dsimp only at e ⊢
    split at e <;> first | (cases e; done) | skip
    all_goals first | (rw [r.int, q.int]; exact e) | (rw [r.str, q.str]; exact e)
end
end Pu
set_option Elab.async false
set_option linter.all false
set_option maxRecDepth 100000
set_option maxHeartbeats 4000000
/-! Items, slices, built-ins of trees. -/
namespace Pu
open PySem (Str sizeLine PyData)
open Dl (Va Ob Store Bop Cop Bi Bm Tyk)
section
variable {k : Gk} {h : Store} {gl : List Va}
theorem RepG.dct {F : Ky → D → Va → Prop} {x y : D} {w : Va} {ps : List (Ky × D)} {l : List (Va × Va)} {d : D} {y' : Ky} (r : RepG F ps l) (e1 : keyOf y = some y') (e2 : kFit gl ps y' = true) (e3 : dget ps y' = some d) (q : Vw k h y w) :
    ∃ v, (if Dl.kFit gl l w = true then Dl.dget l w else none) = some v ∧ F y' d v := by
  rw [keyOf_vw q e1, r.fit, if_pos e2]
  exact r.get e3
theorem item_ok {x y d : D} {u w : Va} (e : item gl x y = some d) (r : Vw k h x u) (q : Vw k h y w) (n : isOwn d = false) : ∃ v, Dl.item gl h u w = some v ∧ Rep k h d v := by
  unfold item at e
  unfold Dl.item
  split at e
  · split at e
    · obtain ⟨l, rfl, r1⟩ := r.tup
      rw [q.int]
      exact r1.atI e
    · cases e
  · split at e
    · obtain ⟨m, l, rfl, en, r1⟩ := r
      rw [q.int]
      dsimp only
      rw [en]
      exact r1.atI e
    · cases e
  · split at e
    · obtain ⟨l, rfl, r1⟩ := r.rl
      rw [q.int]
      exact r1.atI e
    · cases e
  · split at e
    · rw [r.str, q.int]
      dsimp only
      split at e
      · rw [if_pos (by assumption)]
        rename_i z _ i _
        cases z2 : Dl.atI z.cps.toList i with
        | none => rw [z2] at e; cases e
        | some c => rw [z2] at e; cases e; exact ⟨_, rfl, .str _⟩
      · cases e
    · cases e
  · split at e
    · rename_i y' z
      split at e
      · rename_i hf
        obtain ⟨m, l, i, f, rfl, en, r1⟩ := r
        dsimp only
        rw [en]
        dsimp only
        obtain ⟨v, h1, h2⟩ := r1.dct (x := y) z hf e q
        exact ⟨v, h1, h2.rep n⟩
      · cases e
    · cases e
  · cases e
theorem slc_ok {x d : D} {u : Va} {lo hi : Option Int} {b : Bool} (e : slc x lo hi = some (d, b)) (r : Vw k h x u) : OpOk k h d b (Dl.slc h u lo hi) := by
  unfold slc at e
  unfold Dl.slc
  split at e
  · cases e
    obtain ⟨m, l, rfl, en, r1⟩ := r
    dsimp only
    rw [rd_of en]
    exact .inr ⟨rfl, _, rfl, r1.cut lo hi⟩
  · cases e
    obtain ⟨l, rfl, r1⟩ := r.rl
    exact .inr ⟨rfl, _, rfl, r1.cut lo hi⟩
  · rw [r.str]
    dsimp only
    split at e
    · rename_i z
      cases e
      rw [if_pos z]
      exact .inl ⟨rfl, _, rfl, .str _⟩
    · cases e
  · cases e
    obtain ⟨l, rfl, r1⟩ := r.tup
    exact .inl ⟨rfl, _, rfl, .tup (r1.cut lo hi)⟩
  · cases e
/-! ### built-ins -/
inductive Vws (k : Gk) (h : Store) : List D → List Va → Prop
  | nil : Vws k h [] []
  | cons {d : D} {v : Va} {ds : List D} {l : List Va} : Vw k h d v → Vws k h ds l → Vws k h (d :: ds) (v :: l)
theorem Vws.one {d : D} {l : List Va} (r : Vws k h [d] l) : ∃ v, l = [v] ∧ Vw k h d v := by
  cases r with
  | cons a r => cases r; exact ⟨_, rfl, a⟩
theorem Vws.two {d e : D} {l : List Va} (r : Vws k h [d, e] l) : ∃ v w, l = [v, w] ∧ Vw k h d v ∧ Vw k h e w := by
  cases r with
  | cons a r => obtain ⟨w, rfl, b⟩ := r.one; exact ⟨_, _, rfl, a, b⟩
theorem ints_ok : ∀ {ds : List D} {l : List Va} {is : List Int}, Reps k h ds l → ints? ds = some is → Dl.ints? l = some is
  | [], _, _, .nil, e => e
  | d :: ds, _, _, .cons a r, e => by
    obtain ⟨y, ys, h1, h2, rfl⟩ := allO_cons e
    dsimp only at h1
    split at h1
    · cases h1
      rename_i i
      rw [a.vw.int]
      have := ints_ok r h2
      unfold Dl.ints? at this ⊢
      rw [List.map_cons]
      unfold Dl.allO
      rw [this]
    · cases h1
theorem isTy_ok {t : Tyk} {d : D} {v : Va} {c : Bool} (e : isTy t d = some c) (r : Vw k h d v) : Dl.isTy h t v = some c := by
  unfold isTy at e
  split at e
  · rw [r.non]; exact e
  · rw [r.bl]; exact e
  · rw [r.int]; exact e
  · rw [r.str]; exact e
  · obtain ⟨l, rfl, _⟩ := r.tup; exact e
  · obtain ⟨n, l, rfl, en, _⟩ := r
    unfold Dl.isTy
    dsimp only
    rw [en]
    exact e
  · obtain ⟨l, rfl, _⟩ := r.rl; exact e
  · obtain ⟨n, l, i, f, rfl, en, _⟩ := r
    unfold Dl.isTy
    dsimp only
    rw [en]
    exact e
  · cases e
theorem all_congr {α : Type} {l : List α} {f g : α → Bool} (e : ∀ x ∈ l, f x = g x) : l.all f = l.all g := by
  induction l with
  | nil => rfl
  | cons x l ih =>
    rw [List.all_cons, List.all_cons, e x (by simp), ih fun y hy => e y (by simp [hy])]
theorem srtOk_plain {l : List Va} (e : plainVs l = true) : Dl.srtOk h l = Dl.srtOk [] l := by
  unfold Dl.srtOk
  rw [all_congr fun v hv => by rw [dat_plain (h := h) (h' := []) 20 v (plainVs_all.mp e v hv)]]
theorem plain_sort {l : List Va} (e : plainVs l = true) : plainVs (Dl.sortV l) = true := by
  rw [plainVs_all] at e ⊢
  intro v hv
  unfold Dl.sortV at hv
  exact e v (List.mem_mergeSort.mp hv)
theorem srt_ok {ds m : List D} {l : List Va} (e : srt ds = some m) (r : Reps k h ds l) : Dl.srtOk h l = true ∧ Reps k h m (Dl.sortV l) := by
  unfold srt at e
  split at e
  · rename_i vs z
    split at e
    · rename_i z2
      cases e
      have := vaOfs_eq 20 r z
      subst this
      have pl := vaOfs_plain 20 z
      exact ⟨by rw [srtOk_plain pl]; exact z2, rep_dOfs _ (plain_sort pl)⟩
    · cases e
  · cases e
theorem RepG.keys {F : Ky → D → Va → Prop} : ∀ {ps : List (Ky × D)} {l : List (Va × Va)}, RepG F ps l → Reps k h (ps.map (·.1.d)) (l.map (·.1))
  | _, _, .nil => .nil
  | _, _, .cons a r => .cons rep_ky (RepG.keys r)
theorem RepP.vals : ∀ {ps : List (Ky × D)} {l : List (Va × Va)}, RepP k h ps l → Reps k h (ps.map (·.2)) (l.map (·.2))
  | _, _, .nil => .nil
  | _, _, .cons a r => .cons a (RepP.vals r)
theorem RepP.items : ∀ {ps : List (Ky × D)} {l : List (Va × Va)}, RepP k h ps l → Reps k h (ps.map fun p => .tup [p.1.d, p.2]) (l.map fun p => .tup [p.1, p.2])
  | _, _, .nil => .nil
  | _, _, .cons a r => .cons (.tup (.cons rep_ky (.cons a .nil))) (RepP.items r)
theorem prs_ok : ∀ {ds : List D} {l : List Va} {ps : List (Ky × D)}, Reps k h ds l → prs? ds = some ps → ∃ qs, Dl.prs? l = some qs ∧ RepP k h ps qs
  | [], _, _, .nil, e => by
    have := allO_nil e
    subst this
    exact ⟨[], rfl, .nil⟩
  | d :: ds, _, _, .cons a r, e => by
    obtain ⟨y, ys, h1, h2, rfl⟩ := allO_cons e
    obtain ⟨qs, e1, e2⟩ := prs_ok r h2
    dsimp only at h1
    split at h1
    · rename_i b c
      obtain ⟨l, rfl, r1⟩ := a.vw.tup
      cases r1 with
      | cons r1 r2 =>
        cases r2 with
        | cons r2 r3 =>
          cases r3
          rename_i v1 v2
          cases z : keyOf b with
          | none => rw [z] at h1; cases h1
          | some y' =>
            rw [z] at h1
            cases h1
            refine ⟨(v1, v2) :: qs, ?_, ?_⟩
            · unfold Dl.prs? at e1 ⊢
              rw [List.map_cons]
              unfold Dl.allO
              rw [e1]
            · rw [keyOf_vw r1.vw z]
              exact .cons r2 e2
    · cases h1
theorem RepP.put {y : Ky} {d : D} {v : Va} {ps : List (Ky × D)} {l : List (Va × Va)} (r : RepP k h ps l) (a : Rep k h d v) : RepP k h (dput ps y d) (Dl.dput l y.va v) := (r.toG.put (F := fun _ d v => Rep k h d v) a).toP
theorem RepP.fold : ∀ {ps : List (Ky × D)} {l : List (Va × Va)} {a : List (Ky × D)} {b : List (Va × Va)}, RepP k h ps l → RepP k h a b → RepP k h (ps.foldl (fun acc p => dput acc p.1 p.2) a) (l.foldl (fun acc p => Dl.dput acc p.1 p.2) b)
  | _, _, _, _, .nil, s => s
  | _, _, _, _, .cons (y := y) a r, s => by
    have := RepP.fold r (s.put (y := y) a)
    exact this
theorem bfn_ok {b : Bi} {vs : List D} {ws : List Va} {d : D} {c : Bool} (e : bfn b vs = some (d, c)) (r0 : Vws k h vs ws) : OpOk k h d c (Dl.bfn gl b h ws) := by
  unfold bfn at e
  split at e
  · obtain ⟨v, rfl, r⟩ := r0.one
    rw [r.str]
    unfold Dl.bfn
    dsimp only
    split at e
    · rename_i z; cases e; rw [if_pos z]; exact .inl ⟨rfl, _, rfl, .int _⟩
    · cases e
  · obtain ⟨v, rfl, r⟩ := r0.one
    cases e
    obtain ⟨m, l, rfl, en, r1⟩ := r
    unfold Dl.bfn
    dsimp only
    rw [en]
    exact .inl ⟨rfl, _, rfl, by rw [r1.length]; exact .int _⟩
  · obtain ⟨v, rfl, r⟩ := r0.one
    cases e
    obtain ⟨m, l, i, f, rfl, en, r1⟩ := r
    unfold Dl.bfn
    dsimp only
    rw [en]
    exact .inl ⟨rfl, _, rfl, by rw [r1.len]; exact .int _⟩
  · obtain ⟨v, rfl, r⟩ := r0.one
    cases e
    obtain ⟨l, rfl, r1⟩ := r.tup
    exact .inl ⟨rfl, _, rfl, by rw [r1.length]; exact .int _⟩
  · obtain ⟨v, rfl, r⟩ := r0.one
    cases e
    obtain ⟨l, rfl, r1⟩ := r.rl
    exact .inl ⟨rfl, _, rfl, by rw [r1.length]; exact .int _⟩
  · obtain ⟨v, rfl, r⟩ := r0.one
    cases e
    rw [r.int]
    exact .inl ⟨rfl, _, rfl, .int _⟩
  · obtain ⟨v, w, rfl, r, q⟩ := r0.two
    cases e
    rw [r.int, q.int]
    exact .inl ⟨rfl, _, rfl, .int _⟩
  · obtain ⟨v, w, rfl, r, q⟩ := r0.two
    cases e
    rw [r.int, q.int]
    exact .inl ⟨rfl, _, rfl, .int _⟩
  · obtain ⟨v, w, rfl, r, q⟩ := r0.two
    cases e
    rw [r.str, q.str]
    exact .inl ⟨rfl, _, rfl, .str _⟩
  · obtain ⟨v, w, rfl, r, q⟩ := r0.two
    cases e
    rw [r.str, q.str]
    exact .inl ⟨rfl, _, rfl, .str _⟩
  · obtain ⟨v, rfl, r⟩ := r0.one
    obtain ⟨m, l, rfl, en, r1⟩ := r
    unfold Dl.bfn
    dsimp only
    rw [rd_of en]
    dsimp only
    split at e
    · rename_i z
      cases e
      rw [ints_ok r1 z]
      exact .inl ⟨rfl, _, rfl, .int _⟩
    · cases e
  · obtain ⟨v, rfl, r⟩ := r0.one
    obtain ⟨m, l, rfl, en, r1⟩ := r
    unfold Dl.bfn
    dsimp only
    rw [rd_of en]
    dsimp only
    split at e
    · rename_i z
      cases e
      rw [ints_ok r1 z]
      exact .inl ⟨rfl, _, rfl, .int _⟩
    · cases e
  · obtain ⟨v, rfl, r⟩ := r0.one
    obtain ⟨m, l, rfl, en, r1⟩ := r
    unfold Dl.bfn
    dsimp only
    rw [rd_of en]
    dsimp only
    split at e
    · rename_i z
      cases e
      rw [ints_ok r1 z]
      exact .inl ⟨rfl, _, rfl, .int _⟩
    · cases e
  · obtain ⟨v, rfl, r⟩ := r0.one
    obtain ⟨m, l, rfl, en, r1⟩ := r
    unfold Dl.bfn
    dsimp only
    rw [en]
    dsimp only
    rename_i ds
    cases z : srt ds with
    | none => rw [z] at e; cases e
    | some t =>
      rw [z] at e
      cases e
      obtain ⟨h1, h2⟩ := srt_ok z r1
      rw [if_pos h1]
      exact .inr ⟨rfl, _, rfl, h2⟩
  · obtain ⟨v, rfl, r⟩ := r0.one
    obtain ⟨m, l, i, f, rfl, en, r1⟩ := r
    unfold Dl.bfn
    dsimp only
    rw [en]
    dsimp only
    rename_i ds
    cases z : srt (ds.map (·.1.d)) with
    | none => rw [z] at e; cases e
    | some t =>
      rw [z] at e
      cases e
      obtain ⟨h1, h2⟩ := srt_ok z (r1.keys (k := k) (h := h))
      rw [if_pos h1]
      exact .inr ⟨rfl, _, rfl, h2⟩
  · obtain ⟨v, rfl, r⟩ := r0.one
    cases e
    obtain ⟨m, l, rfl, en, r1⟩ := r
    unfold Dl.bfn
    dsimp only
    rw [en]
    exact .inr ⟨rfl, _, rfl, r1⟩
  · obtain ⟨v, rfl, r⟩ := r0.one
    cases e
    obtain ⟨l, rfl, r1⟩ := r.tup
    exact .inr ⟨rfl, _, rfl, r1⟩
  · obtain ⟨v, rfl, r⟩ := r0.one
    cases e
    obtain ⟨l, rfl, r1⟩ := r.rl
    exact .inr ⟨rfl, _, rfl, r1⟩
  · obtain ⟨v, rfl, r⟩ := r0.one
    cases e
    obtain ⟨m, l, rfl, en, r1⟩ := r
    unfold Dl.bfn
    dsimp only
    rw [rd_of en]
    exact .inl ⟨rfl, _, rfl, .tup r1⟩
  · obtain ⟨v, rfl, r⟩ := r0.one
    cases e
    obtain ⟨l, rfl, r1⟩ := r.tup
    exact .inl ⟨rfl, _, rfl, .tup r1⟩
  · obtain ⟨v, rfl, r⟩ := r0.one
    obtain ⟨m, l, i, f, rfl, en, r1⟩ := r
    unfold Dl.bfn
    dsimp only
    rw [en]
    dsimp only
    split at e
    · rename_i z
      cases e
      rw [Bool.and_eq_true] at z
      rw [if_pos (by rw [r1.all (f := Ky.isA) (g := Dl.kOk) fun _ => kOk_ky]; exact z.1)]
      exact .inr ⟨rfl, _, rfl, r1.toP z.2⟩
    · cases e
  · obtain ⟨v, rfl, r⟩ := r0.one
    obtain ⟨m, l, rfl, en, r1⟩ := r
    unfold Dl.bfn
    dsimp only
    rw [en]
    dsimp only
    split at e
    · rename_i ps z
      obtain ⟨qs, h1, h2⟩ := prs_ok r1 z
      rw [h1]
      dsimp only
      split at e
      · rename_i z2
        cases e
        rw [if_pos (by rw [h2.toG.all (f := Ky.isA) (g := Dl.kOk) fun _ => kOk_ky]; exact z2)]
        exact .inr ⟨rfl, _, rfl, h2.fold .nil⟩
      · cases e
    · cases e
  · obtain ⟨v, rfl, r⟩ := r0.one
    cases e
    rw [r.int]
    exact .inl ⟨rfl, _, rfl, .int _⟩
  · obtain ⟨v, rfl, r⟩ := r0.one
    cases e
    rw [r.bl]
    exact .inl ⟨rfl, _, rfl, .int _⟩
  · obtain ⟨v, rfl, r⟩ := r0.one
    rw [r.int]
    unfold Dl.bfn
    dsimp only
    split at e
    · rename_i z; cases e; rw [if_pos z]; exact .inl ⟨rfl, _, rfl, .str _⟩
    · cases e
  · obtain ⟨v, rfl, r⟩ := r0.one
    cases e
    rw [r.str]
    exact .inl ⟨rfl, _, rfl, .str _⟩
  · obtain ⟨v, w, rfl, r, q⟩ := r0.two
    rw [r.int, q.int]
    unfold Dl.bfn
    dsimp only
    split at e
    · rename_i z; cases e; rw [if_pos z]; exact .inl ⟨rfl, _, rfl, .tup (.cons (.int _) (.cons (.int _) .nil))⟩
    · cases e
  · obtain ⟨v, rfl, r⟩ := r0.one
    rename_i t d1
    cases z : isTy t d1 with
    | none => rw [z] at e; cases e
    | some c2 =>
      rw [z] at e
      cases e
      unfold Dl.bfn
      dsimp only
      rw [isTy_ok z r]
      exact .inl ⟨rfl, _, rfl, .bl _⟩
  · cases e
theorem dlf_ok {b : Bm} {d x : D} {u : Va} (e : dlf b x = some d) (r : Vw k h x u) : OpOk k h d true (Dl.dlf b h u) := by
  unfold dlf at e
  split at e
  · rename_i ps
    split at e
    · rename_i z
      obtain ⟨m, l, i, f, rfl, en, r1⟩ := r
      have r2 := r1.toP z
      unfold Dl.dlf
      dsimp only
      rw [en]
      dsimp only
      split at e
      · cases e
        exact .inr ⟨rfl, _, rfl, r2.items⟩
      · cases e
        exact .inr ⟨rfl, _, rfl, r2.vals⟩
      · cases e
    · cases e
  · cases e
/-- what is gone over, and the list that must stay -/
theorem iter_ok {d : D} {v : Va} {ds : List D} (e : iter d = some ds) (r : Vw k h d v) : ∃ l n, Dl.iter h v = some (l, n) ∧ Reps k h ds l ∧ (∀ m, n = some m → v = .ref m ∧ d = .lst ds ∧ h[m]? = some (.lst l)) := by
  unfold iter at e
  split at e
  · cases e
    obtain ⟨l, rfl, r1⟩ := r.tup
    exact ⟨l, none, rfl, r1, fun m z => by cases z⟩
  · cases e
    obtain ⟨m, l, rfl, en, r1⟩ := r
    refine ⟨l, some m, ?_, r1, fun m z => by cases z; exact ⟨rfl, rfl, en⟩⟩
    unfold Dl.iter
    dsimp only
    rw [rd_of en]
    rfl
  · cases e
    obtain ⟨l, rfl, r1⟩ := r.rl
    exact ⟨l, none, rfl, r1, fun m z => by cases z⟩
  · cases e
    rw [r.str]
    rename_i z
    refine ⟨_, none, rfl, ?_, fun m z => by cases z⟩
    generalize z.cps.toList = cs
    induction cs with
    | nil => exact .nil
    | cons c cs ih => exact .cons (.str _) ih
  · cases e
theorem rangeI_ok {lo : Int} {n : Nat} : Reps k h (rangeI lo n) (Dl.rangeI lo n) := by
  induction n generalizing lo with
  | zero => exact .nil
  | succ n ih => exact .cons (.int _) ih
theorem rngI_ok {vs ds : List D} {ws : List Va} (e : rngI vs = some ds) (r0 : Vws k h vs ws) : ∃ l, Dl.rngI ws = some l ∧ Reps k h ds l := by
  unfold rngI at e
  split at e
  · obtain ⟨v, rfl, r⟩ := r0.one
    rw [r.int]
    unfold Dl.rngI
    split at e
    · rename_i z; cases e; exact ⟨_, if_pos z, rangeI_ok⟩
    · cases e
  · obtain ⟨v, w, rfl, r, q⟩ := r0.two
    rw [r.int, q.int]
    unfold Dl.rngI
    split at e
    · rename_i z; cases e; exact ⟨_, if_pos z, rangeI_ok⟩
    · cases e
  · cases e
/-- in place -/
theorem bmf_ok {b : Bm} {d d' : D} {vs : List D} {ws : List Va} {n : Nat} {o : Ob} (e : bmf b d vs = some d') (en : h[n]? = some o) (r : RC k h d o) (q : Reps k h vs ws) : ∃ o', Dl.bmf b h (.ref n) ws = .ok .non (h.set n o') ∧ RC k h d' o' := by
  unfold bmf at e
  split at e
  · cases q with
    | cons q1 q2 =>
      cases q2
      cases o with
      | lst l =>
        have r1 : Reps k h _ l := r
        split at e
        · rename_i z
          cases e
          unfold Dl.bmf
          dsimp only
          rw [rd_of en]
          dsimp only
          rw [if_pos (by rw [← r1.length]; exact z)]
          exact ⟨_, rfl, r1.append (.cons q1 .nil)⟩
        · cases e
      | _ => exact False.elim r
  · cases q
    cases o with
    | lst l =>
      cases e
      unfold Dl.bmf
      dsimp only
      rw [en]
      exact ⟨_, rfl, .nil⟩
    | _ => exact False.elim r
  · cases q
    cases o with
    | dct l =>
      cases e
      unfold Dl.bmf
      dsimp only
      rw [en]
      exact ⟨_, rfl, .nil⟩
    | _ => exact False.elim r
  · cases q
    cases o with
    | lst l =>
      have r1 : Reps k h _ l := r
      cases e
      unfold Dl.bmf
      dsimp only
      rw [rd_of en]
      exact ⟨_, rfl, r1.rev⟩
    | _ => exact False.elim r
  · cases e
theorem bmT_ok {b : Bm} {d : D} {n : Nat} {o : Ob} (e : bmT b d = true) (en : h[n]? = some o) (r : (∃ ds l, d = .lst ds ∧ o = .lst l) ∨ ∃ ds l, d = .dct ds ∧ o = .dct l) : Dl.bmT b h (.ref n) = true := by
  unfold Dl.bmT
  rcases r with ⟨ds, l, rfl, rfl⟩ | ⟨ds, l, rfl, rfl⟩
  · cases b <;> dsimp only <;> first | (rw [rd_of en]; rfl) | (rw [en])
  · cases b <;> first | (cases e; done) | (dsimp only; rw [en])
end
end Pu
set_option Elab.async false
set_option linter.all false
set_option maxRecDepth 100000
set_option maxHeartbeats 4000000
/-! What holds between a tree reading and the store's. -/
namespace Pu
open PySem (Str sizeLine PyData)
open Dl (Va Ob Store Bop Cop Bi Bm Tyk Tg)
/-- which fields are changed in place; whose dicts have lists of their own -/
structure Mdl where
  mu : Nat → Bool
  ns : Nat → Bool
/-- an object's fields -/
inductive Flds (m : Mdl) (k : Gk) (h : Store) (i : Nat) : List (Nat × D) → List (Nat × Va) → Prop
  | nil : Flds m k h i [] []
  | cons {f : Nat} {d : D} {v : Va} {l : List (Nat × D)} {r : List (Nat × Va)} : (if m.mu f = true then ∃ n, v = .ref n ∧ k n = .fld i f else Rep k h d v) → Flds m k h i l r → Flds m k h i ((f, d) :: l) ((f, v) :: r)
/-- a field's own -/
def RCQ (k : Gk) (h : Store) (i f : Nat) (d : D) (o : Ob) : Prop := match d, o with
  | .lst ds, .lst l => Reps k h ds l
  | .dct ps, .dct l => RepQ k h i f ps l
  | _, _ => False
structure Inv (m : Mdl) (k : Gk) (h : Store) (O : Os) : Prop where
  lt : ∀ n, k n ≠ .no → n < h.length
  injo : ∀ a b i, k a = .obj i → k b = .obj i → a = b
  injf : ∀ a b i f, k a = .fld i f → k b = .fld i f → a = b
  injn : ∀ a b i f y, k a = .nst i f y → k b = .nst i f y → a = b
  mf : ∀ n i f, k n = .fld i f → m.mu f = true
  mn : ∀ n i f y, k n = .nst i f y → m.ns f = true ∧ m.mu f = true
  obs : ∀ a i, k a = .obj i → ∃ oj l, O[i]? = some oj ∧ h[a]? = some (.ins oj.c l) ∧ Flds m k h i oj.fs l
  fls : ∀ n i f, k n = .fld i f → ∃ d o, fldOf O i f = some d ∧ h[n]? = some o ∧ RCQ k h i f d o
  nss : ∀ n i f y, k n = .nst i f y → ∃ ds l, ownOf O i f y = some (.lst ds) ∧ h[n]? = some (.lst l) ∧ Reps k h ds l
def RF (k0 k : Gk) (h : Store) (d : D) (fl : Fl) (v : Va) : Prop := match fl with
  | .shr => Rep k h d v
  | .fr => ∃ n o, v = .ref n ∧ k0 n = .no ∧ k n = .held ∧ h[n]? = some o ∧ RC k h d o
  | .ho => ∃ n o, v = .ref n ∧ k n = .held ∧ h[n]? = some o ∧ RC k h d o
  | .hb => ∃ n o, v = .ref n ∧ k n = .held ∧ h[n]? = some o ∧ RC k h d o
  | .hf i f => d = .box i f ∧ ∃ n, v = .ref n ∧ k n = .fld i f
  | .hk i f y => d = .box i f ∧ ∃ n, v = .ref n ∧ k n = .nst i f y
/-- a cell that is one of an object's -/
def Kd.spec : Kd → Bool
  | .obj _ => true
  | .fld _ _ => true
  | .nst _ _ _ => true
  | _ => false
section
variable {m : Mdl} {k k' k'' k0 : Gk} {h h' h'' : Store} {O : Os}
theorem RC.mono {d : D} {o : Ob} (e : Em k h k' h') (r : RC k h d o) : RC k' h' d o := by
  unfold RC at r ⊢
  split at r
  · exact r.mono e
  · exact r.mono e
  · exact r.elim
theorem Ev.nst (e : Ev k h k' h') : ∀ n i f y, k n = .nst i f y → k' n = .nst i f y := fun n i f y z => by rw [e.kd n (by rw [z]; exact fun w => by cases w), z]
theorem RCQ.mono {d : D} {o : Ob} {i f : Nat} (e : Em k h k' h') (n : ∀ n i f y, k n = .nst i f y → k' n = .nst i f y) (r : RCQ k h i f d o) : RCQ k' h' i f d o := by
  unfold RCQ at r ⊢
  split at r
  · exact r.mono e
  · exact RepQ.mono e n r
  · exact r.elim
theorem Flds.mono (e : Em k h k' h') {i : Nat} : ∀ {l : List (Nat × D)} {r : List (Nat × Va)}, Flds m k h i l r → Flds m k' h' i l r
  | _, _, .nil => .nil
  | _, _, .cons (f := f) a r => by
    refine .cons ?_ (Flds.mono e r)
    by_cases c : m.mu f = true
    · rw [if_pos c] at a ⊢
      obtain ⟨n, e1, e2⟩ := a
      exact ⟨n, e1, e.fld _ _ _ e2⟩
    · rw [if_neg c] at a ⊢
      exact a.mono e
theorem RC.vw {d : D} {o : Ob} {n : Nat} (r : RC k h d o) (e : h[n]? = some o) : Vw k h d (.ref n) := by
  unfold RC at r
  split at r
  · exact ⟨_, _, rfl, e, r⟩
  · exact ⟨_, _, 0, 0, rfl, e, r.toQ⟩
  · exact r.elim
theorem RCQ.vw {d : D} {o : Ob} {n i f : Nat} (r : RCQ k h i f d o) (e : h[n]? = some o) : Vw k h d (.ref n) := by
  unfold RCQ at r
  split at r
  · exact ⟨_, _, rfl, e, r⟩
  · exact ⟨_, _, _, _, rfl, e, r⟩
  · exact r.elim
theorem RF.vw {d : D} {fl : Fl} {v : Va} (I : Inv m k h O) (r : RF k0 k h d fl v) : Vw k h (cur O d fl) v := by
  cases fl with
  | shr => exact Rep.vw r
  | fr => obtain ⟨n, o, rfl, _, _, e, r⟩ := r; exact r.vw e
  | ho => obtain ⟨n, o, rfl, _, e, r⟩ := r; exact r.vw e
  | hb => obtain ⟨n, o, rfl, _, e, r⟩ := r; exact r.vw e
  | hf i f =>
    obtain ⟨_, n, rfl, z⟩ := r
    obtain ⟨d', o, e1, e2, e3⟩ := I.fls _ _ _ z
    unfold cur
    dsimp only
    rw [e1]
    exact e3.vw e2
  | hk i f y =>
    obtain ⟨_, n, rfl, z⟩ := r
    obtain ⟨ds, l, e1, e2, e3⟩ := I.nss _ _ _ _ z
    unfold cur
    dsimp only
    rw [e1]
    exact ⟨_, _, rfl, e2, e3⟩
theorem held_ne {n : Nat} (z : k n = .held) : k n ≠ .no := by rw [z]; exact fun w => by cases w
theorem RF.mono {d : D} {fl : Fl} {v : Va} (e : Ev k h k' h') (r : RF k0 k h d fl v) : RF k0 k' h' d fl v := by
  cases fl with
  | shr => exact Rep.mono e.em r
  | fr => obtain ⟨n, o, rfl, z0, z, e1, r⟩ := r; exact ⟨n, o, rfl, z0, by rw [e.kd n (held_ne z), z], by rw [e.st n (.inr z), e1], r.mono e.em⟩
  | ho => obtain ⟨n, o, rfl, z, e1, r⟩ := r; exact ⟨n, o, rfl, by rw [e.kd n (held_ne z), z], by rw [e.st n (.inr z), e1], r.mono e.em⟩
  | hb => obtain ⟨n, o, rfl, z, e1, r⟩ := r; exact ⟨n, o, rfl, by rw [e.kd n (held_ne z), z], by rw [e.st n (.inr z), e1], r.mono e.em⟩
  | hf i f => obtain ⟨hd, n, rfl, z⟩ := r; exact ⟨hd, n, rfl, e.em.fld _ _ _ z⟩
  | hk i f y => obtain ⟨hd, n, rfl, z⟩ := r; exact ⟨hd, n, rfl, e.nst _ _ _ _ z⟩
theorem Ev.no (e : Ev k h k' h') {n : Nat} (z : k' n = .no) : k n = .no := by
  by_cases c : k n = .no
  · exact c
  · rw [e.kd n c] at z
    exact z
theorem RF.weak {d : D} {fl : Fl} {v : Va} (e : Ev k h k' h') (r : RF k' k'' h'' d fl v) : RF k k'' h'' d fl v := by
  cases fl with
  | fr => obtain ⟨n, o, rfl, z0, z, e1, r⟩ := r; exact ⟨n, o, rfl, e.no z0, z, e1, r⟩
  | _ => exact r
/-- cells of objects stay, all else is known again -/
theorem Inv.keep (I : Inv m k h O) (lt : ∀ n, k' n ≠ .no → n < h'.length) (sp : ∀ n, (k' n).spec = true → k' n = k n ∧ h'[n]? = h[n]?) (em : Em k h k' h') (ns : ∀ n i f y, k n = .nst i f y → k' n = .nst i f y) : Inv m k' h' O where
  lt := lt
  injo a b i h1 h2 := I.injo a b i (by rw [← (sp a (by rw [h1]; rfl)).1]; exact h1) (by rw [← (sp b (by rw [h2]; rfl)).1]; exact h2)
  injf a b i f h1 h2 := I.injf a b i f (by rw [← (sp a (by rw [h1]; rfl)).1]; exact h1) (by rw [← (sp b (by rw [h2]; rfl)).1]; exact h2)
  injn a b i f y h1 h2 := I.injn a b i f y (by rw [← (sp a (by rw [h1]; rfl)).1]; exact h1) (by rw [← (sp b (by rw [h2]; rfl)).1]; exact h2)
  mf a i f h1 := I.mf a i f (by rw [← (sp a (by rw [h1]; rfl)).1]; exact h1)
  mn a i f y h1 := I.mn a i f y (by rw [← (sp a (by rw [h1]; rfl)).1]; exact h1)
  obs a i h1 := by
    obtain ⟨z1, z2⟩ := sp a (by rw [h1]; rfl)
    obtain ⟨oj, l, e1, e2, e3⟩ := I.obs a i (by rw [← z1]; exact h1)
    exact ⟨oj, l, e1, z2.trans e2, e3.mono em⟩
  fls a i f h1 := by
    obtain ⟨z1, z2⟩ := sp a (by rw [h1]; rfl)
    obtain ⟨oj, l, e1, e2, e3⟩ := I.fls a i f (by rw [← z1]; exact h1)
    exact ⟨oj, l, e1, z2.trans e2, e3.mono em ns⟩
  nss a i f y h1 := by
    obtain ⟨z1, z2⟩ := sp a (by rw [h1]; rfl)
    obtain ⟨oj, l, e1, e2, e3⟩ := I.nss a i f y (by rw [← z1]; exact h1)
    exact ⟨oj, l, e1, z2.trans e2, e3.mono em⟩
def Gk.put (k : Gk) (n : Nat) (x : Kd) : Gk := fun a => if a = n then x else k a
theorem put_same {n : Nat} {x : Kd} : Gk.put k n x n = x := if_pos rfl
theorem put_ne {a n : Nat} {x : Kd} (e : a ≠ n) : Gk.put k n x a = k a := if_neg e
theorem Inv.no (I : Inv m k h O) {n : Nat} (z : h.length ≤ n) : k n = .no := by
  by_cases c : k n = .no
  · exact c
  · have := I.lt n c
    omega
theorem Inv.alloc (I : Inv m k h O) {ob : Ob} {x : Kd} (hx : x.spec = false) : Inv m (k.put h.length x) (h ++ [ob]) O ∧ Ev k h (k.put h.length x) (h ++ [ob]) := by
  have ev : Ev k h (k.put h.length x) (h ++ [ob]) := ⟨fun n z => put_ne (by have := I.lt n z; omega), fun n z => by
    have := I.lt n (by rcases z with z | z <;> (rw [z]; exact fun w => by cases w))
    rw [List.getElem?_append_left this]⟩
  refine ⟨I.keep (fun n z => ?_) (fun n z => ?_) ev.em ev.nst, ev⟩
  · by_cases c : n = h.length
    · subst c; simp
    · rw [put_ne c] at z
      have := I.lt n z
      simp
      omega
  · have c : n ≠ h.length := by
      rintro rfl
      rw [put_same, hx] at z
      cases z
    rw [put_ne c] at z ⊢
    have : n < h.length := I.lt n (by rintro w; rw [w] at z; cases z)
    exact ⟨rfl, by rw [List.getElem?_append_left this]⟩
/-- nobody's (any more): never changed again -/
theorem Inv.freeze (I : Inv m k h O) (e : Ev k0 h' k h) {n : Nat} (z : k n = .held) (z0 : k0 n = .no) : Inv m (k.put n .frz) h O ∧ Ev k0 h' (k.put n .frz) h ∧ Em k h (k.put n .frz) h := by
  have nn : ∀ {a : Nat} {x : Kd}, k a = x → x ≠ .held → Gk.put k n .frz a = x := fun {a x} w w2 => by
    rw [put_ne]
    · exact w
    · rintro rfl
      exact w2 (w.symm.trans z)
  have em : Em k h (k.put n .frz) h := ⟨fun a w => ⟨nn w (fun q => by cases q), rfl⟩, fun a i w => nn w (fun q => by cases q), fun a i f w => nn w (fun q => by cases q)⟩
  refine ⟨I.keep (fun a w => ?_) (fun a w => ?_) em (fun a i f y w => nn w (fun q => by cases q)), ⟨fun a w => ?_, fun a w => e.st a w⟩, em⟩
  · by_cases c : a = n
    · subst c; exact I.lt a (held_ne z)
    · rw [put_ne c] at w; exact I.lt a w
  · by_cases c : a = n
    · subst c; rw [put_same] at w; cases w
    · rw [put_ne c]; exact ⟨rfl, rfl⟩
  · rw [put_ne]
    · exact e.kd a w
    · rintro rfl; exact w z0
theorem RC.frz {d : D} {o : Ob} {n : Nat} (r : RC k h d o) (z : k n = .frz) (e : h[n]? = some o) : Rep k h d (.ref n) := by
  unfold RC at r
  split at r
  · exact .lst z e r
  · exact .dct z e r
  · exact r.elim
/-- what may be handed on is everybody's from now on -/
theorem RF.share {d : D} {fl : Fl} {v : Va} (I : Inv m k h O) (e : Ev k0 h' k h) (r : RF k0 k h d fl v) (f : fl.free = true) : ∃ k1, Inv m k1 h O ∧ Ev k0 h' k1 h ∧ Em k h k1 h ∧ Rep k1 h d v ∧ (∀ n, k1 n ≠ k n → v = .ref n ∧ fl = .fr) := by
  cases fl with
  | shr => exact ⟨k, I, e, .refl, r, fun _ w => absurd rfl w⟩
  | fr =>
    obtain ⟨n, o, rfl, z0, z, e1, r⟩ := r
    obtain ⟨I1, ev, em⟩ := I.freeze e z z0
    exact ⟨_, I1, ev, em, (r.mono em).frz put_same e1, fun a w => by
      by_cases c : a = n
      · subst c; exact ⟨rfl, rfl⟩
      · exact absurd (put_ne c) w⟩
  | _ => cases f
/-! ### ends -/
def SimR (m : Mdl) (k : Gk) (h : Store) (r : R) (rv : Dl.R) : Prop := match r with
  | .ok d fl O => ∃ v h' k', rv = .ok v h' ∧ Ev k h k' h' ∧ Inv m k' h' O ∧ RF k k' h' d fl v
  | .exc c fs O => ∃ vs h' k', rv = .exc c vs h' ∧ Ev k h k' h' ∧ Inv m k' h' O ∧ Reps k' h' fs vs
  | .bad => True
inductive RFs (k : Gk) (h : Store) : List (D × Fl) → List Va → Prop
  | nil : RFs k h [] []
  | cons {d : D} {fl : Fl} {v : Va} {l : List (D × Fl)} {r : List Va} : RF k k h d fl v → RFs k h l r → RFs k h ((d, fl) :: l) (v :: r)
theorem RFs.mono (e : Ev k h k' h') : ∀ {l : List (D × Fl)} {r : List Va}, RFs k h l r → RFs k' h' l r
  | _, _, .nil => .nil
  | _, _, .cons (fl := fl) a r => by
    refine .cons ?_ (RFs.mono e r)
    have b := a.mono e
    cases fl with
    | fr =>
      obtain ⟨n, o, rfl, z0, z, e1, _⟩ := a
      rw [z] at z0
      cases z0
    | _ => exact b
theorem RFs.vws (I : Inv m k h O) : ∀ {l : List (D × Fl)} {r : List Va}, RFs k h l r → Vws k h (curs O l) r
  | _, _, .nil => .nil
  | _, _, .cons a r => .cons (a.vw I) (RFs.vws I r)
theorem RFs.shr : ∀ {l : List (D × Fl)} {r : List Va} {ds : List D}, RFs k h l r → allShr l = some ds → Reps k h ds r
  | [], _, ds, .nil, e => by
    unfold allShr at e
    cases e
    exact .nil
  | (d, fl) :: l, _, ds, .cons a r, e => by
    unfold allShr at e
    split at e
    · rename_i z
      cases e
      simp only [List.all_cons, Bool.and_eq_true] at z
      refine .cons ?_ (RFs.shr r (by unfold allShr; rw [if_pos z.2]))
      cases fl with
      | shr => exact a
      | fr =>
        obtain ⟨n, o, rfl, z0, z, e1, _⟩ := a
        rw [z] at z0
        cases z0
      | _ => cases z.1
    · cases e
def SimL (m : Mdl) (k : Gk) (h : Store) (r : Rl) (rv : Dl.Rl) : Prop := match r with
  | .ok l O => ∃ vs h' k', rv = .ok vs h' ∧ Ev k h k' h' ∧ Inv m k' h' O ∧ RFs k' h' l vs
  | .exc c fs O => ∃ vs h' k', rv = .exc c vs h' ∧ Ev k h k' h' ∧ Inv m k' h' O ∧ Reps k' h' fs vs
  | .bad => True
theorem SimR.weak {r : R} {rv : Dl.R} (e : Ev k h k' h') (s : SimR m k' h' r rv) : SimR m k h r rv := by
  cases r with
  | ok d fl O => obtain ⟨v, h2, k2, e1, e2, e3, e4⟩ := s; exact ⟨v, h2, k2, e1, e.trans e2, e3, e4.weak e⟩
  | exc c fs O => obtain ⟨v, h2, k2, e1, e2, e3, e4⟩ := s; exact ⟨v, h2, k2, e1, e.trans e2, e3, e4⟩
  | bad => trivial
theorem SimL.weak {r : Rl} {rv : Dl.Rl} (e : Ev k h k' h') (s : SimL m k' h' r rv) : SimL m k h r rv := by
  cases r with
  | ok d O => obtain ⟨v, h2, k2, e1, e2, e3, e4⟩ := s; exact ⟨v, h2, k2, e1, e.trans e2, e3, e4⟩
  | exc c fs O => obtain ⟨v, h2, k2, e1, e2, e3, e4⟩ := s; exact ⟨v, h2, k2, e1, e.trans e2, e3, e4⟩
  | bad => trivial
theorem SimR.bind {r : R} {rv : Dl.R} {f : D → Fl → Os → R} {g : Va → Store → Dl.R} (s : SimR m k h r rv) (q : ∀ d fl O v h' k', Ev k h k' h' → Inv m k' h' O → RF k k' h' d fl v → SimR m k' h' (f d fl O) (g v h')) : SimR m k h (r.bind f) (rv.bind g) := by
  cases r with
  | ok d fl O => obtain ⟨v, h2, k2, rfl, e2, e3, e4⟩ := s; exact (q d fl O v h2 k2 e2 e3 e4).weak e2
  | exc c fs O => obtain ⟨v, h2, k2, rfl, e2, e3, e4⟩ := s; exact ⟨v, h2, k2, rfl, e2, e3, e4⟩
  | bad => trivial
theorem SimR.bindl {r : R} {rv : Dl.R} {f : D → Fl → Os → Rl} {g : Va → Store → Dl.Rl} (s : SimR m k h r rv) (q : ∀ d fl O v h' k', Ev k h k' h' → Inv m k' h' O → RF k k' h' d fl v → SimL m k h (f d fl O) (g v h')) : SimL m k h (r.bindl f) (rv.bindl g) := by
  cases r with
  | ok d fl O => obtain ⟨v, h2, k2, rfl, e2, e3, e4⟩ := s; exact q d fl O v h2 k2 e2 e3 e4
  | exc c fs O => obtain ⟨v, h2, k2, rfl, e2, e3, e4⟩ := s; exact ⟨v, h2, k2, rfl, e2, e3, e4⟩
  | bad => trivial
theorem SimL.bind {r : Rl} {rv : Dl.Rl} {f : List (D × Fl) → Os → R} {g : List Va → Store → Dl.R} (s : SimL m k h r rv) (q : ∀ l O v h' k', Ev k h k' h' → Inv m k' h' O → RFs k' h' l v → SimR m k' h' (f l O) (g v h')) : SimR m k h (r.bind f) (rv.bind g) := by
  cases r with
  | ok l O => obtain ⟨v, h2, k2, rfl, e2, e3, e4⟩ := s; exact (q l O v h2 k2 e2 e3 e4).weak e2
  | exc c fs O => obtain ⟨v, h2, k2, rfl, e2, e3, e4⟩ := s; exact ⟨v, h2, k2, rfl, e2, e3, e4⟩
  | bad => trivial
theorem SimR.val {d : D} {v : Va} (I : Inv m k h O) (r : Rep k h d v) : SimR m k h (.ok d .shr O) (.ok v h) := ⟨v, h, k, rfl, .refl, I, r⟩
/-- a new container -/
theorem SimR.new {d : D} {o : Ob} (I : Inv m k h O) (r : RC k h d o) : SimR m k h (.ok d .fr O) (.ok (.ref h.length) (h ++ [o])) := by
  obtain ⟨I1, e1⟩ := I.alloc (ob := o) (x := .held) rfl
  exact ⟨_, _, _, rfl, e1, I1, _, o, rfl, I.no (Nat.le_refl _), put_same, by simp, r.mono e1.em⟩
theorem OpOk.sim {d : D} {b : Bool} {rv : Dl.R} (I : Inv m k h O) (q : OpOk k h d b rv) : SimR m k h (.ok d (.of b) O) rv := by
  rcases q with ⟨rfl, v, rfl, r⟩ | ⟨rfl, ob, rfl, r⟩
  · exact .val I r
  · exact .new I r
theorem SimR.of {x : Option (D × Bool)} {rv : Dl.R} (I : Inv m k h O) (q : ∀ d b, x = some (d, b) → OpOk k h d b rv) : SimR m k h (.of O x) rv := by
  cases x with
  | none => trivial
  | some p => exact (q p.1 p.2 rfl).sim I
/-! ### slots -/
def Held (k : Gk) (h : Store) (d : D) (o : Option (Option Va)) : Prop := ∃ n ob, o = some (some (.ref n)) ∧ k n = .held ∧ h[n]? = some ob ∧ RC k h d ob
def SlR (k : Gk) (h : Store) (x : Sl) (o : Option (Option Va)) : Prop := match x with
  | .no => True
  | .sh d => ∃ v, o = some (some v) ∧ Rep k h d v
  | .ow d => Held k h d o
  | .bo d => Held k h d o
  | .bx i f => ∃ n, o = some (some (.ref n)) ∧ k n = .fld i f
def OwnAt (s : Slots) (sv : Dl.Slots) (i n : Nat) : Prop := (∃ d, s[i]? = some (.ow d)) ∧ sv[i]? = some (some (.ref n))
def HoldAt (s : Slots) (sv : Dl.Slots) (i n : Nat) : Prop := (∃ d, s[i]? = some (.ow d) ∨ s[i]? = some (.bo d)) ∧ sv[i]? = some (some (.ref n))
structure SR (k : Gk) (h : Store) (s : Slots) (sv : Dl.Slots) : Prop where
  len : s.length = sv.length
  at_ : ∀ (i : Nat) (x : Sl), s[i]? = some x → SlR k h x sv[i]?
  dis : ∀ i j n, OwnAt s sv i n → HoldAt s sv j n → i = j
theorem OwnAt.hold {s : Slots} {sv : Dl.Slots} {i n : Nat} (a : OwnAt s sv i n) : HoldAt s sv i n := ⟨let ⟨d, e⟩ := a.1; ⟨d, .inl e⟩, a.2⟩
theorem SR.held {s : Slots} {sv : Dl.Slots} {i n : Nat} (S : SR k h s sv) (a : HoldAt s sv i n) : k n = .held := by
  obtain ⟨⟨d, e⟩, e2⟩ := a
  rcases e with e | e
  · obtain ⟨n', ob, q1, q2, _⟩ := S.at_ i _ e
    rw [e2] at q1
    cases q1
    exact q2
  · obtain ⟨n', ob, q1, q2, _⟩ := S.at_ i _ e
    rw [e2] at q1
    cases q1
    exact q2
theorem Held.mono {d : D} {o : Option (Option Va)} (em : Em k h k' h') (hd : ∀ n, o = some (some (.ref n)) → k n = .held → k' n = .held ∧ h'[n]? = h[n]?) (r : Held k h d o) : Held k' h' d o := by
  obtain ⟨n, ob, e1, e2, e3, e4⟩ := r
  obtain ⟨z1, z2⟩ := hd n e1 e2
  exact ⟨n, ob, e1, z1, z2.trans e3, e4.mono em⟩
theorem SR.mono {s : Slots} {sv : Dl.Slots} (S : SR k h s sv) (e : Ev k h k' h') : SR k' h' s sv := by
  refine ⟨S.len, fun i x hx => ?_, S.dis⟩
  have a := S.at_ i x hx
  have hd : ∀ n, sv[i]? = some (some (.ref n)) → k n = .held → k' n = .held ∧ h'[n]? = h[n]? := fun n _ z => ⟨by rw [e.kd n (held_ne z), z], e.st n (.inr z)⟩
  cases x with
  | no => trivial
  | sh d => obtain ⟨v, e1, e2⟩ := a; exact ⟨v, e1, e2.mono e.em⟩
  | ow d => exact Held.mono e.em hd a
  | bo d => exact Held.mono e.em hd a
  | bx i f => obtain ⟨n, e1, e2⟩ := a; exact ⟨n, e1, e.em.fld _ _ _ e2⟩
theorem getS {α : Type} {l : List α} {i j : Nat} {x y : α} (e : (l.set i x)[j]? = some y) : (i = j ∧ y = x) ∨ (i ≠ j ∧ l[j]? = some y) := by
  by_cases c : i = j
  · subst c
    have hl : i < l.length := by
      have := (List.getElem?_eq_some_iff.mp e).1
      simpa using this
    rw [List.getElem?_set_self hl] at e
    cases e
    exact .inl ⟨rfl, rfl⟩
  · rw [List.getElem?_set_ne c] at e
    exact .inr ⟨c, e⟩
theorem own_set {s : Slots} {sv : Dl.Slots} {i j n : Nat} {x : Sl} {o : Option Va} (hx : ∀ d, x ≠ .ow d) (a : OwnAt (s.set i x) (sv.set i o) j n) : OwnAt s sv j n := by
  obtain ⟨⟨d, e⟩, e2⟩ := a
  rcases getS e with ⟨_, z⟩ | ⟨c, z⟩
  · exact absurd z.symm (hx d)
  · rw [List.getElem?_set_ne c] at e2
    exact ⟨⟨d, z⟩, e2⟩
theorem hold_set {s : Slots} {sv : Dl.Slots} {i j n : Nat} {x : Sl} {o : Option Va} (hx : ∀ d, x ≠ .ow d ∧ x ≠ .bo d) (a : HoldAt (s.set i x) (sv.set i o) j n) : HoldAt s sv j n := by
  obtain ⟨⟨d, e⟩, e2⟩ := a
  rcases e with e | e
  · rcases getS e with ⟨_, z⟩ | ⟨c, z⟩
    · exact absurd z.symm (hx d).1
    · rw [List.getElem?_set_ne c] at e2
      exact ⟨⟨d, .inl z⟩, e2⟩
  · rcases getS e with ⟨_, z⟩ | ⟨c, z⟩
    · exact absurd z.symm (hx d).2
    · rw [List.getElem?_set_ne c] at e2
      exact ⟨⟨d, .inr z⟩, e2⟩
theorem SR.set_plain {s : Slots} {sv : Dl.Slots} {i : Nat} {x : Sl} {o : Option Va} (S : SR k h s sv) (hx : ∀ d, x ≠ .ow d ∧ x ≠ .bo d) (r : SlR k h x (some o)) : SR k h (s.set i x) (sv.set i o) := by
  refine ⟨by simp [S.len], fun j y e => ?_, fun a b n p q => S.dis a b n (own_set (fun d => (hx d).1) p) (hold_set hx q)⟩
  rcases getS e with ⟨rfl, rfl⟩ | ⟨c, z⟩
  · have hl : i < sv.length := by
      have := (List.getElem?_eq_some_iff.mp e).1
      rw [← S.len]
      simpa using this
    rw [List.getElem?_set_self hl]
    exact r
  · rw [List.getElem?_set_ne c]
    exact S.at_ j y z
theorem SR.set_sh {s : Slots} {sv : Dl.Slots} {d : D} {v : Va} (S : SR k h s sv) (i : Nat) (r : Rep k h d v) : SR k h (s.set i (.sh d)) (sv.set i (some v)) := S.set_plain (fun _ => ⟨fun z => (by cases z), fun z => (by cases z)⟩) ⟨v, rfl, r⟩
theorem SR.set_no {s : Slots} {sv : Dl.Slots} (S : SR k h s sv) (i : Nat) (o : Option Va) : SR k h (s.set i .no) (sv.set i o) := S.set_plain (fun _ => ⟨fun z => (by cases z), fun z => (by cases z)⟩) trivial
theorem SR.set_ow {s : Slots} {sv : Dl.Slots} {i n : Nat} {d : D} {ob : Ob} (S : SR k h s sv) (z : k n = .held) (e1 : h[n]? = some ob) (r : RC k h d ob) (fresh : ∀ j, j ≠ i → ¬ HoldAt s sv j n) : SR k h (s.set i (.ow d)) (sv.set i (some (.ref n))) := by
  refine ⟨by simp [S.len], fun j y e => ?_, fun a b c p q => ?_⟩
  · rcases getS e with ⟨rfl, rfl⟩ | ⟨c, z⟩
    · have hl : i < sv.length := by
        have := (List.getElem?_eq_some_iff.mp e).1
        rw [← S.len]
        simpa using this
      rw [List.getElem?_set_self hl]
      exact ⟨n, ob, rfl, by assumption, e1, r⟩
    · rw [List.getElem?_set_ne c]
      exact S.at_ j y z
  · have key : ∀ j, HoldAt (s.set i (.ow d)) (sv.set i (some (.ref n))) j c → (j = i ∧ c = n) ∨ (j ≠ i ∧ HoldAt s sv j c) := fun j w => by
      obtain ⟨⟨d1, e⟩, e2⟩ := w
      by_cases hj : i = j
      · subst hj
        have hl : i < sv.length := by
          have := (List.getElem?_eq_some_iff.mp e2).1
          simpa using this
        rw [List.getElem?_set_self hl] at e2
        cases e2
        exact .inl ⟨rfl, rfl⟩
      · rw [List.getElem?_set_ne hj] at e e2
        exact .inr ⟨fun w => hj w.symm, ⟨d1, e⟩, e2⟩
    rcases key a p.hold with ⟨rfl, rfl⟩ | ⟨na, pa⟩
    · rcases key b q with ⟨rfl, _⟩ | ⟨nb, qb⟩
      · rfl
      · exact absurd qb (fresh b nb)
    · rcases key b q with ⟨rfl, rfl⟩ | ⟨nb, qb⟩
      · exact absurd pa (fresh a na)
      · have : OwnAt s sv a c := by
          obtain ⟨⟨d1, e⟩, e2⟩ := p
          have hj : i ≠ a := fun w => na w.symm
          rw [List.getElem?_set_ne hj] at e e2
          exact ⟨⟨d1, e⟩, e2⟩
        exact S.dis a b c this qb
mutual
theorem asn_ok : ∀ (t : Tg) {d : D} {v : Va} {s s' : Slots} {sv : Dl.Slots}, SR k h s sv → Rep k h d v → asn t d .shr s = some s' → ∃ sv', Dl.asn t v sv = some sv' ∧ SR k h s' sv' ∧ ∀ i n, OwnAt s' sv' i n → OwnAt s sv i n
  | .nm i, d, v, s, s', sv, S, r, e => by
    unfold asn at e
    cases e
    exact ⟨_, rfl, S.set_sh i r, fun j n a => own_set (fun d => fun z => by cases z) a⟩
  | .tup ts, d, v, s, s', sv, S, r, e => by
    cases d with
    | tup ds =>
      obtain ⟨l, rfl, r1⟩ := r.vw.tup
      unfold asn at e
      exact asns_ok ts S r1 e
    | _ => unfold asn at e; cases e
theorem asns_ok : ∀ (ts : List Tg) {ds : List D} {vs : List Va} {s s' : Slots} {sv : Dl.Slots}, SR k h s sv → Reps k h ds vs → asn.asns ts ds s = some s' → ∃ sv', Dl.asn.asns ts vs sv = some sv' ∧ SR k h s' sv' ∧ ∀ i n, OwnAt s' sv' i n → OwnAt s sv i n
  | [], ds, vs, s, s', sv, S, r, e => by
    cases r with
    | nil => unfold asn.asns at e; cases e; exact ⟨sv, rfl, S, fun _ _ a => a⟩
    | cons a r => unfold asn.asns at e; cases e
  | t :: ts, ds, vs, s, s', sv, S, r, e => by
    cases r with
    | nil => unfold asn.asns at e; cases e
    | cons a r =>
      unfold asn.asns at e
      split at e
      · rename_i s1 z
        obtain ⟨sv1, e1, S1, o1⟩ := asn_ok t S a z
        obtain ⟨sv2, e2, S2, o2⟩ := asns_ok ts S1 r e
        refine ⟨sv2, ?_, S2, fun i n w => o1 i n (o2 i n w)⟩
        unfold Dl.asn.asns
        rw [e1]
        exact e2
      · cases e
end
theorem SR.wipe {s : Slots} {sv : Dl.Slots} (S : SR k h s sv) : ∀ own : List Nat, SR k h (wipeS s own) (Dl.wipeS sv own)
  | [] => S
  | v :: vs => by
    unfold wipeS Dl.wipeS
    exact (SR.wipe S vs).set_no v none
end
end Pu
set_option Elab.async false
set_option linter.all false
set_option maxRecDepth 100000
set_option maxHeartbeats 4000000
/-! Expressions: the tree reading stands for the store's. -/
namespace Pu
open PySem (Str sizeLine PyData)
open Dl (Va Ob Store Bop Cop Bi Bm Tyk Tg Ex)
def ArgR (k : Gk) (h : Store) : Sl → Va → Prop
  | .sh d, v => Rep k h d v
  | .bo d, v => Held k h d (some (some v))
  | .bx i f, v => ∃ n, v = .ref n ∧ k n = .fld i f
  | _, _ => False
inductive ArgsR (k : Gk) (h : Store) : List Sl → List Va → Prop
  | nil : ArgsR k h [] []
  | cons {x : Sl} {v : Va} {l : List Sl} {r : List Va} : ArgR k h x v → ArgsR k h l r → ArgsR k h (x :: l) (v :: r)
structure CR (m : Mdl) (C : Cfg) (Cv : Dl.Cfg) : Prop where
  gl : Cv.gl = C.gl
  pl : plainVs C.gl = true
  cls : Cv.cls = C.cls
  mu : C.mut_ = m.mu
  ns : C.nst = m.ns
  wl : C.wl = wlc
  wlv : Cv.wl = Dl.wlc
  run : ∀ (f : Nat) (as : List Sl) (O : Os) (k : Gk) (h : Store) (vs : List Va), Inv m k h O → ArgsR k h as vs → SimR m k h (C.run f as O) (Cv.run f vs h)
def HdR (k : Gk) (h : Store) (a : Option (Nat × List D)) (b : Option (Nat × List Va)) : Prop := match a, b with
  | none, none => True
  | some (c, ds), some (c', vs) => c = c' ∧ Reps k h ds vs
  | _, _ => False
section
variable {m : Mdl} {k k' k'' k0 : Gk} {h h' h'' : Store} {O : Os} {C : Cfg} {Cv : Dl.Cfg}
theorem HdR.mono {a : Option (Nat × List D)} {b : Option (Nat × List Va)} (r : HdR k h a b) (e : Em k h k' h') : HdR k' h' a b := by
  unfold HdR at r ⊢
  split at r
  · trivial
  · exact ⟨r.1, r.2.mono e⟩
  · exact r.elim
theorem RF.held' {d : D} {v : Va} (r : ∃ n o, v = .ref n ∧ k n = .held ∧ h[n]? = some o ∧ RC k h d o) : Held k h d (some (some v)) := by
  obtain ⟨n, o, rfl, a, b, c⟩ := r
  exact ⟨n, o, rfl, a, b, c⟩
theorem RFs.args : ∀ {l : List (D × Fl)} {r : List Va} {as : List Sl}, RFs k h l r → toArgs l = some as → ArgsR k h as r
  | _, _, _, .nil, e => by rw [allO_nil e]; exact .nil
  | _, _, _, .cons (d := d) (fl := fl) a r, e => by
    obtain ⟨y, ys, h1, h2, rfl⟩ := allO_cons e
    refine .cons ?_ (RFs.args r h2)
    unfold toArg at h1
    cases fl with
    | shr => cases h1; exact a
    | fr =>
      obtain ⟨n, o, rfl, z0, z, e1, _⟩ := a
      rw [z] at z0
      cases z0
    | ho => cases h1; exact RF.held' a
    | hb => cases h1; exact RF.held' a
    | hf i f => cases h1; obtain ⟨_, n, rfl, z⟩ := a; exact ⟨n, rfl, z⟩
    | hk => cases h1
mutual
theorem rep_fun (I : Inv m k h O) : ∀ (d : D) {v w : Va}, nl d = true → Rep k h d v → Rep k h d w → v = w
  | .non, _, _, _, a, b => by rw [a.vw.non, b.vw.non]
  | .bl _, _, _, _, a, b => by rw [a.vw.bl, b.vw.bl]
  | .int _, _, _, _, a, b => by rw [a.vw.int, b.vw.int]
  | .str _, _, _, _, a, b => by rw [a.vw.str, b.vw.str]
  | .hx, _, _, _, a, b => by rw [a.vw.hx, b.vw.hx]
  | .tup ds, _, _, e, a, b => by
    obtain ⟨l, rfl, r1⟩ := a.vw.tup
    obtain ⟨l2, rfl, r2⟩ := b.vw.tup
    unfold nl at e
    rw [reps_fun I ds e r1 r2]
  | .obj _, _, _, _, a, b => by
    cases a with
    | obj a => cases b with
      | obj b => rw [I.injo _ _ _ a b]
  | .box _ _, _, _, _, a, b => by
    cases a with
    | box a => cases b with
      | box b => rw [I.injf _ _ _ _ a b]
  | .lst _, _, _, e, _, _ => by unfold nl at e; cases e
  | .rl _, _, _, e, _, _ => by unfold nl at e; cases e
  | .dct _, _, _, e, _, _ => by unfold nl at e; cases e
  | .own _, _, _, e, _, _ => by unfold nl at e; cases e
theorem reps_fun (I : Inv m k h O) : ∀ (ds : List D) {l r : List Va}, nls ds = true → Reps k h ds l → Reps k h ds r → l = r
  | [], _, _, _, .nil, .nil => rfl
  | d :: ds, _, _, e, .cons a r, .cons b q => by
    unfold nls at e
    rw [Bool.and_eq_true] at e
    rw [rep_fun I d e.1 a b, reps_fun I ds e.2 r q]
end
theorem stay_gen {d : D} {fl : Fl} {v : Va} {ds : List D} {l : List Va} {n : Option Nat} (I : Inv m k h O) (r : RF k0 k h d fl v) (rl : Reps k h ds l) (hn : ∀ mm, n = some mm → v = .ref mm ∧ cur O d fl = .lst ds ∧ h[mm]? = some (.lst l)) {O' : Os} (em : Em k h k' h') (ns : ∀ n i f y, k n = .nst i f y → k' n = .nst i f y) (hd : fl = .fr ∨ fl = .ho ∨ fl = .hb → ∀ n, v = .ref n → h'[n]? = h[n]?) (I' : Inv m k' h' O') (st : stay (cur O d fl) fl O' = true) : Dl.stays h' l n = true := by
  cases n with
  | none => rfl
  | some mm =>
    obtain ⟨rfl, hc, en⟩ := hn mm rfl
    unfold Dl.stays
    have fin : ∀ l', h'[mm]? = some (.lst l') → l' = l → decide (h'[mm]? = some (.lst l)) = true := fun l' a b => by rw [a, b]; simp
    cases fl with
    | shr =>
      have r1 : Rep k h d (.ref mm) := r
      rw [show cur O d .shr = d from rfl] at hc
      subst hc
      cases r1 with
      | lst a b c => exact fin l (by rw [(em.frz _ a).2, en]) rfl
    | fr =>
      obtain ⟨n, o, q, _, z, _⟩ := r
      cases q
      exact fin l (by rw [hd (.inl rfl) _ rfl, en]) rfl
    | ho =>
      obtain ⟨n, o, q, z, _⟩ := r
      cases q
      exact fin l (by rw [hd (.inr (.inl rfl)) _ rfl, en]) rfl
    | hb =>
      obtain ⟨n, o, q, z, _⟩ := r
      cases q
      exact fin l (by rw [hd (.inr (.inr rfl)) _ rfl, en]) rfl
    | hf i f =>
      obtain ⟨_, n, q, z⟩ := r
      cases q
      rw [hc] at st
      unfold stay at st
      simp only [Bool.and_eq_true, decide_eq_true_eq] at st
      obtain ⟨d2, o, e1, e2, e3⟩ := I'.fls mm i f (em.fld _ _ _ z)
      rw [st.2] at e1
      cases e1
      cases o with
      | lst l' => exact fin l' e2 (reps_fun I' ds st.1 e3 (rl.mono em))
      | _ => exact e3.elim
    | hk i f y =>
      obtain ⟨_, n, q, z⟩ := r
      cases q
      rw [hc] at st
      unfold stay at st
      simp only [Bool.and_eq_true, decide_eq_true_eq] at st
      obtain ⟨d2, l', e1, e2, e3⟩ := I'.nss mm i f y (ns _ _ _ _ z)
      rw [st.2] at e1
      cases e1
      exact fin l' e2 (reps_fun I' _ st.1 e3 (rl.mono em))
theorem stay_ok {d : D} {fl : Fl} {v : Va} {ds : List D} {l : List Va} {n : Option Nat} (I : Inv m k h O) (r : RF k0 k h d fl v) (rl : Reps k h ds l) (hn : ∀ mm, n = some mm → v = .ref mm ∧ cur O d fl = .lst ds ∧ h[mm]? = some (.lst l)) {O' : Os} (e : Ev k h k' h') (I' : Inv m k' h' O') (st : stay (cur O d fl) fl O' = true) : Dl.stays h' l n = true := by
  refine stay_gen I r rl hn e.em e.nst (fun hf n hv => ?_) I' st
  subst hv
  rcases hf with rfl | rfl | rfl
  · obtain ⟨n', o, q, _, z, _⟩ := r
    cases q
    exact e.st _ (.inr z)
  · obtain ⟨n', o, q, z, _⟩ := r
    cases q
    exact e.st _ (.inr z)
  · obtain ⟨n', o, q, z, _⟩ := r
    cases q
    exact e.st _ (.inr z)
/-- what a comprehension's turn gives -/
def SimT (m : Mdl) (k : Gk) (h : Store) (r : Option (Option D × Os)) (rv : Option (Option Va × Store)) : Prop := match r with
  | some (o, O) => ∃ ov h' k', rv = some (ov, h') ∧ Ev k h k' h' ∧ Inv m k' h' O ∧ (match o, ov with
    | some d, some v => Rep k' h' d v
    | none, none => True
    | _, _ => False)
  | none => True
theorem goC_ok {chk : Os → Bool} {cv : Store → Bool} {f : D → Os → Option (Option D × Os)} {g : Va → Store → Option (Option Va × Store)}
    (hc : ∀ k' h' O', Ev k h k' h' → Inv m k' h' O' → chk O' = true → cv h' = true)
    (hf : ∀ x v k' h' O', Ev k h k' h' → Inv m k' h' O' → Rep k' h' x v → SimT m k' h' (f x O') (g v h')) :
    ∀ (ds : List D) {l : List Va} {acc : List D} {accv : List Va} {k1 : Gk} {h1 : Store} {O1 : Os}, Ev k h k1 h1 → Inv m k1 h1 O1 → Reps k1 h1 ds l → Reps k1 h1 acc accv →
    match goC chk f ds acc O1 with
    | .ok r O' => ∃ vs h' k', Dl.goC cv g l accv h1 = .ok vs h' ∧ Ev k1 h1 k' h' ∧ Inv m k' h' O' ∧ Reps k' h' (r.map (·.1)) vs
    | .exc .. => False
    | .bad => True
  | [], l, acc, accv, k1, h1, O1, e, I, rl, ra => by
    cases rl
    unfold goC
    by_cases c : chk O1 = true
    · rw [if_pos c]
      dsimp only
      refine ⟨accv.reverse, h1, k1, ?_, .refl, I, ?_⟩
      · unfold Dl.goC
        rw [if_pos (hc _ _ _ e I c)]
      · rw [List.map_map]
        have : (acc.reverse.map ((fun p : D × Fl => p.1) ∘ fun d => (d, Fl.shr))) = acc.reverse := by
          rw [show ((fun p : D × Fl => p.1) ∘ fun d => (d, Fl.shr)) = id from rfl, List.map_id]
        rw [this]
        exact ra.rev
    · rw [if_neg c]
      trivial
  | x :: xs, l, acc, accv, k1, h1, O1, e, I, rl, ra => by
    cases rl with
    | cons a rl =>
      rename_i v l
      unfold goC
      by_cases c : chk O1 = true
      · rw [if_pos c]
        have q := hf x v k1 h1 O1 e I a
        cases z : f x O1 with
        | none => trivial
        | some p =>
          obtain ⟨o, O2⟩ := p
          rw [z] at q
          obtain ⟨ov, h2, k2, q1, q2, q3, q4⟩ := q
          cases o with
          | none =>
            cases ov with
            | some v => exact q4.elim
            | none =>
              dsimp only
              have ih := goC_ok hc hf xs (e.trans q2) q3 (rl.mono q2.em) (ra.mono q2.em)
              have st : Dl.goC cv g (v :: l) accv h1 = Dl.goC cv g l accv h2 := by
                conv => lhs; unfold Dl.goC
                rw [if_pos (hc _ _ _ e I c), q1]
              rw [st]
              split at ih
              · obtain ⟨vs, h3, k3, i1, i2, i3, i4⟩ := ih
                exact ⟨vs, h3, k3, i1, q2.trans i2, i3, i4⟩
              · exact ih.elim
              · trivial
          | some d =>
            cases ov with
            | none => exact q4.elim
            | some w =>
              dsimp only
              have ih := goC_ok hc hf xs (acc := d :: acc) (accv := w :: accv) (e.trans q2) q3 (rl.mono q2.em) (.cons q4 (ra.mono q2.em))
              have st : Dl.goC cv g (v :: l) accv h1 = Dl.goC cv g l (w :: accv) h2 := by
                conv => lhs; unfold Dl.goC
                rw [if_pos (hc _ _ _ e I c), q1]
              rw [st]
              split at ih
              · obtain ⟨vs, h3, k3, i1, i2, i3, i4⟩ := ih
                exact ⟨vs, h3, k3, i1, q2.trans i2, i3, i4⟩
              · exact ih.elim
              · trivial
      · rw [if_neg c]
        trivial
theorem SimR.opt {r : R} {rv : Dl.R} (s : SimR m k h r rv) : SimT m k h (r.opt.map fun (v, O) => (some v, O)) (rv.opt.map fun (v, h) => (some v, h)) := by
  cases r with
  | ok d fl O =>
    obtain ⟨v, h1, k1, rfl, e1, I1, r1⟩ := s
    unfold R.opt
    dsimp only
    split
    · rename_i z
      obtain ⟨k2, I2, e2, em, r2, _⟩ := r1.share I1 e1 z
      exact ⟨some v, h1, k2, rfl, e2, I2, r2⟩
    · trivial
  | exc c fs O => trivial
  | bad => trivial
theorem item_own {gl : List Va} {x y : D} {u : Va} {l0 : List D} (e : item gl x y = some (.own l0)) (r : Vw k h x u) : ∃ ps ky, x = .dct ps ∧ keyOf y = some ky ∧ kFit gl ps ky = true ∧ dget ps ky = some (.own l0) := by
  unfold item at e
  split at e
  · split at e
    · obtain ⟨l, rfl, r1⟩ := r.tup
      obtain ⟨w, _, z⟩ := r1.atI e
      cases z
    · cases e
  · split at e
    · obtain ⟨n, l, rfl, _, r1⟩ := r
      obtain ⟨w, _, z⟩ := r1.atI e
      cases z
    · cases e
  · split at e
    · obtain ⟨l, rfl, r1⟩ := r.rl
      obtain ⟨w, _, z⟩ := r1.atI e
      cases z
    · cases e
  · split at e
    · split at e
      · generalize Dl.atI _ _ = q at e
        cases q with
        | none => cases e
        | some c => cases e
      · cases e
    · cases e
  · split at e
    · split at e
      · exact ⟨_, _, rfl, by assumption, by assumption, e⟩
      · cases e
    · cases e
  · cases e
theorem Flds.get {i f : Nat} {d : D} : ∀ {l : List (Nat × D)} {r : List (Nat × Va)}, Flds m k h i l r → lkF f l = some d → ∃ v, Dl.lkF f r = some v ∧ (if m.mu f = true then ∃ n, v = .ref n ∧ k n = .fld i f else Rep k h d v)
  | _, _, .nil, e => by cases e
  | _, _, .cons (f := g) (d := d1) (v := v1) (l := l) (r := r0) a r, e => by
    unfold lkF at e
    unfold Dl.lkF
    by_cases c : g = f
    · subst c
      simp only [List.find?_cons, beq_self_eq_true, Option.map_some] at e ⊢
      cases e
      exact ⟨_, rfl, a⟩
    · have c2 : (g == f) = false := by simpa using c
      simp only [List.find?_cons, c2] at e ⊢
      exact Flds.get r e
end
end Pu
set_option Elab.async false
set_option linter.all false
set_option maxRecDepth 100000
set_option maxHeartbeats 4000000
/-! Every expression: the tree reading stands for the store's. -/
namespace Pu
open PySem (Str sizeLine PyData)
open Dl (Va Ob Store Bop Cop Bi Bm Tyk Tg Ex)
section
variable {m : Mdl} {k k' k'' k0 : Gk} {h h' h'' : Store} {C : Cfg} {Cv : Dl.Cfg}
theorem SimR.bl {O : Os} (I : Inv m k h O) {b : Bool} : SimR m k h (.ok (.bl b) .shr O) (.ok (.bl b) h) := .val I (.bl b)
theorem ArgsR.mono (e : Em k h k' h') (hd : ∀ n, k n = .held → k' n = .held ∧ h'[n]? = h[n]?) : ∀ {l : List Sl} {r : List Va}, ArgsR k h l r → ArgsR k' h' l r
  | _, _, .nil => .nil
  | _, _, .cons (x := x) a r => by
    refine .cons ?_ (ArgsR.mono e hd r)
    cases x with
    | sh d => exact Rep.mono e a
    | bo d => exact Held.mono e (fun n _ z => hd n z) a
    | bx i f => obtain ⟨n, rfl, z⟩ := a; exact ⟨n, rfl, e.fld _ _ _ z⟩
    | _ => exact a
theorem Ev.heldS (e : Ev k h k' h') : ∀ n, k n = .held → k' n = .held ∧ h'[n]? = h[n]? := fun n z => ⟨by rw [e.kd n (held_ne z), z], e.st n (.inr z)⟩
def cont : D → Bool
  | .lst _ => true
  | .dct _ => true
  | .box _ _ => true
  | _ => false
theorem RF.rep {d : D} {fl : Fl} {v : Va} (r : RF k0 k h d fl v) (c : cont d = false) : Rep k h d v := by
  have no : ∀ {o : Ob}, RC k h d o → False := fun {o} z => by
    unfold RC at z
    split at z
    · cases c
    · cases c
    · exact z
  cases fl with
  | shr => exact r
  | fr => obtain ⟨n, o, _, _, _, _, z⟩ := r; exact (no z).elim
  | ho => obtain ⟨n, o, _, _, _, z⟩ := r; exact (no z).elim
  | hb => obtain ⟨n, o, _, _, _, z⟩ := r; exact (no z).elim
  | hf i f => obtain ⟨rfl, _⟩ := r; cases c
  | hk i f y => obtain ⟨rfl, _⟩ := r; cases c
theorem RF.frzAny {d : D} {fl : Fl} {v : Va} {k1 : Gk} (r : RF k0 k h d (frz1 fl) v) : RF k1 k h d (frz1 fl) v := by cases fl <;> exact r
theorem RF.freezeF {O : Os} {d : D} {fl : Fl} {v : Va} (r : RF k k' h' d fl v) (I : Inv m k' h' O) (e : Ev k h k' h') : ∃ k2, Inv m k2 h' O ∧ Ev k h k2 h' ∧ RF k2 k2 h' d (frz1 fl) v := by
  cases fl with
  | fr =>
    obtain ⟨k2, I2, e2, em, r2, _⟩ := RF.share I e r rfl
    exact ⟨k2, I2, e2, r2⟩
  | _ => exact ⟨k', I, e, r⟩
theorem SimR.bind0 {r : R} {rv : Dl.R} {f : D → Fl → Os → R} {g : Va → Store → Dl.R} (s : SimR m k h r rv) (q : ∀ d fl O v h' k', Ev k h k' h' → Inv m k' h' O → RF k k' h' d fl v → SimR m k h (f d fl O) (g v h')) : SimR m k h (r.bind f) (rv.bind g) := by
  cases r with
  | ok d fl O => obtain ⟨v, h2, k2, rfl, e2, e3, e4⟩ := s; exact q d fl O v h2 k2 e2 e3 e4
  | exc c fs O => obtain ⟨v, h2, k2, rfl, e2, e3, e4⟩ := s; exact ⟨v, h2, k2, rfl, e2, e3, e4⟩
  | bad => trivial
/-- a new object, nothing in it yet -/
theorem Inv.newO {O : Os} (I : Inv m k h O) (c : Nat) : Inv m (k.put h.length (.obj O.length)) (h ++ [.ins c []]) (O ++ [⟨c, []⟩]) ∧ Ev k h (k.put h.length (.obj O.length)) (h ++ [.ins c []]) := by
  have ev : Ev k h (k.put h.length (.obj O.length)) (h ++ [.ins c []]) := ⟨fun n z => put_ne (by have := I.lt n z; omega), fun n z => by
    have := I.lt n (by rcases z with z | z <;> (rw [z]; exact fun w => by cases w))
    rw [List.getElem?_append_left this]⟩
  have old : ∀ {a : Nat} {x : Kd}, x ≠ .no → (x ≠ .obj O.length) → k.put h.length (.obj O.length) a = x → k a = x ∧ a < h.length := fun {a x} z1 z2 e => by
    by_cases c : a = h.length
    · subst c
      rw [put_same] at e
      exact absurd e.symm z2
    · rw [put_ne c] at e
      exact ⟨e, I.lt a (by rw [e]; exact z1)⟩
  have Ol : ∀ {i : Nat} {x : Oj}, O[i]? = some x → (O ++ [⟨c, []⟩])[i]? = some x ∧ i < O.length := fun {i x} e => by
    have := (List.getElem?_eq_some_iff.mp e).1
    exact ⟨by rw [List.getElem?_append_left this]; exact e, this⟩
  have fo : ∀ {i f : Nat} {d : D}, fldOf O i f = some d → fldOf (O ++ [⟨c, []⟩]) i f = some d := fun {i f d} e => by
    unfold fldOf at e ⊢
    cases q : O[i]? with
    | none => rw [q] at e; cases e
    | some oj => rw [(Ol q).1]; rw [q] at e; exact e
  have nobj : ∀ {a : Nat}, k a ≠ .obj O.length := fun {a} e => by
    obtain ⟨oj, l, e1, _⟩ := I.obs a _ e
    have := (Ol e1).2
    omega
  refine ⟨⟨fun n z => ?_, fun a b i p q => ?_, fun a b i f p q => ?_, fun a b i f y p q => ?_, fun a i f p => I.mf a i f (old (fun w => by cases w) (fun w => by cases w) p).1, fun a i f y p => I.mn a i f y (old (fun w => by cases w) (fun w => by cases w) p).1, fun a i p => ?_, fun n i f p => ?_, fun n i f y p => ?_⟩, ev⟩
  · by_cases c : n = h.length
    · subst c; simp
    · rw [put_ne c] at z
      have := I.lt n z
      simp
      omega
  · by_cases ci : i = O.length
    · subst ci
      have one : ∀ {a : Nat}, k.put h.length (.obj O.length) a = .obj O.length → a = h.length := fun {a} e => by
        by_cases c : a = h.length
        · exact c
        · rw [put_ne c] at e
          exact absurd e nobj
      rw [one p, one q]
    · have n2 : Kd.obj i ≠ .obj O.length := fun z => ci (by cases z; rfl)
      exact I.injo a b i (old (fun w => by cases w) n2 p).1 (old (fun w => by cases w) n2 q).1
  · exact I.injf a b i f (old (fun w => by cases w) (fun w => by cases w) p).1 (old (fun w => by cases w) (fun w => by cases w) q).1
  · exact I.injn a b i f y (old (fun w => by cases w) (fun w => by cases w) p).1 (old (fun w => by cases w) (fun w => by cases w) q).1
  · by_cases ci : i = O.length
    · subst ci
      have : a = h.length := by
        by_cases c : a = h.length
        · exact c
        · rw [put_ne c] at p
          exact absurd p nobj
      subst this
      exact ⟨⟨c, []⟩, [], by simp, by simp, .nil⟩
    · have n2 : Kd.obj i ≠ .obj O.length := fun z => ci (by cases z; rfl)
      obtain ⟨z, zl⟩ := old (fun w => by cases w) n2 p
      obtain ⟨oj, l, e1, e2, e3⟩ := I.obs a i z
      exact ⟨oj, l, (Ol e1).1, by rw [List.getElem?_append_left zl]; exact e2, e3.mono ev.em⟩
  · obtain ⟨z, zl⟩ := old (fun w => by cases w) (fun w => by cases w) p
    obtain ⟨d, o, e1, e2, e3⟩ := I.fls n i f z
    exact ⟨d, o, fo e1, by rw [List.getElem?_append_left zl]; exact e2, e3.mono ev.em ev.nst⟩
  · obtain ⟨z, zl⟩ := old (fun w => by cases w) (fun w => by cases w) p
    obtain ⟨d, o, e1, e2, e3⟩ := I.nss n i f y z
    refine ⟨d, o, ?_, by rw [List.getElem?_append_left zl]; exact e2, e3.mono ev.em⟩
    unfold ownOf at e1 ⊢
    cases q : fldOf O i f with
    | none => rw [q] at e1; cases e1
    | some d => rw [fo q]; rw [q] at e1; exact e1
noncomputable def turnC (C : Cfg) (t : Tg) (cond : Option Ex) (elt : Ex) (own : List Nat) (s : Slots) : D → Os → Option (Option D × Os) := fun x O => match asn t x .shr (wipeS s own) with
  | some s' => match evC C cond s' O with
    | some (true, O) => (evE C elt s' O).opt.map fun (v, O) => (some v, O)
    | some (false, O) => some (none, O)
    | none => none
  | none => none
theorem evE_comp {elt : Ex} {t : Tg} {it : Ex} {cond : Option Ex} {own : List Nat} {s : Slots} {O : Os} : evE C (.comp elt t it cond own) s O = (evE C it s O).bind fun d fd O => match iter (cur O d fd) with
    | some l => if l.length ≤ sizeLine then (goC (stay (cur O d fd) fd) (turnC C t cond elt own s) l [] O).bind fun vs O => .ok (.lst (vs.map (·.1))) .fr O else .bad
    | none => .bad := by
  conv => lhs; unfold evE
  all_goals rfl
theorem evE_compR {elt : Ex} {t : Tg} {es : List Ex} {cond : Option Ex} {own : List Nat} {s : Slots} {O : Os} : evE C (.compR elt t es cond own) s O = (evL C es s O).bind fun vs O => match rngI (curs O vs) with
    | some l => if l.length ≤ sizeLine then (goC (fun _ => true) (turnC C t cond elt own s) l [] O).bind fun vs O => .ok (.lst (vs.map (·.1))) .fr O else .bad
    | none => .bad := by
  conv => lhs; unfold evE
  all_goals rfl
/-- only a field's dict has lists of its own -/
theorem item_nst {O : Os} {x y d : D} {fx : Fl} {u : Va} {k0 : Gk} (R : CR m C Cv) (I : Inv m k h O) (r : RF k0 k h x fx u) (e : item C.gl (cur O x fx) y = some d) (hd : isOwn d = true) : nsts C fx = true := by
  cases d <;> first | (cases hd; done) | skip
  obtain ⟨ps, ky, c1, c2, c3, c4⟩ := item_own e (r.vw I)
  have noP : ∀ {l : List (Va × Va)}, RepP k h ps l → False := fun {l} q => by
    obtain ⟨v, _, z⟩ := q.toG.get c4
    cases z
  cases fx with
  | shr =>
    have r' : Rep k h x u := r
    rw [show cur O x .shr = x from rfl] at c1
    subst c1
    cases r' with
    | dct _ _ q => exact (noP q).elim
  | fr =>
    obtain ⟨n, o, _, _, _, _, q⟩ := r
    rw [show cur O x .fr = x from rfl] at c1
    subst c1
    cases o with
    | dct l => exact (noP q).elim
    | _ => exact q.elim
  | ho =>
    obtain ⟨n, o, _, _, _, q⟩ := r
    rw [show cur O x .ho = x from rfl] at c1
    subst c1
    cases o with
    | dct l => exact (noP q).elim
    | _ => exact q.elim
  | hb =>
    obtain ⟨n, o, _, _, _, q⟩ := r
    rw [show cur O x .hb = x from rfl] at c1
    subst c1
    cases o with
    | dct l => exact (noP q).elim
    | _ => exact q.elim
  | hf i f =>
    obtain ⟨_, n, _, z⟩ := r
    obtain ⟨d2, o, f1, f2, f3⟩ := I.fls n i f z
    have : cur O x (.hf i f) = d2 := by unfold cur; dsimp only; rw [f1]; rfl
    rw [c1] at this
    subst this
    cases o with
    | dct l =>
      obtain ⟨v, _, z2⟩ := RepG.get (F := RepO k h i f) f3 c4
      obtain ⟨mm, _, z3⟩ := z2
      unfold nsts
      dsimp only
      rw [R.ns]
      exact (I.mn _ _ _ _ z3).1
    | _ => exact f3.elim
  | hk i f y' =>
    obtain ⟨_, n, _, z⟩ := r
    obtain ⟨ds, l, f1, _, _⟩ := I.nss n i f y' z
    have : cur O x (.hk i f y') = .lst ds := by unfold cur; dsimp only; rw [f1]; rfl
    rw [c1] at this
    cases this
/-- a comprehension's turn -/
theorem simT (elt : Ex) (t : Tg) (cond : Option Ex) (own : List Nat) {C : Cfg} {Cv : Dl.Cfg}
    (hE : ∀ {k : Gk} {h : Store} {O : Os} {s : Slots} {sv : Dl.Slots}, HdR k h C.hd Cv.hd → Inv m k h O → SR k h s sv → SimR m k h (evE C elt s O) (Dl.evE Cv elt sv h))
    (hC : ∀ {k : Gk} {h : Store} {O : Os} {s : Slots} {sv : Dl.Slots}, HdR k h C.hd Cv.hd → Inv m k h O → SR k h s sv → match evC C cond s O with
      | some (b, O') => ∃ h' k', Dl.evC Cv cond sv h = some (b, h') ∧ Ev k h k' h' ∧ Inv m k' h' O'
      | none => True)
    {k : Gk} {h : Store} {O : Os} {s : Slots} {sv : Dl.Slots} {x : D} {v : Va} (H : HdR k h C.hd Cv.hd) (I : Inv m k h O) (S : SR k h s sv) (rx : Rep k h x v) :
    SimT m k h (turnC C t cond elt own s x O) (Dl.turnC Cv t cond elt own sv v h) := by
  unfold turnC Dl.turnC
  cases q : asn t x .shr (wipeS s own) with
  | none => trivial
  | some s' =>
    obtain ⟨sv', q1, S1, _⟩ := asn_ok t (S.wipe own) rx q
    rw [q1]
    dsimp only
    have w := hC H I S1
    cases z : evC C cond s' O with
    | none => trivial
    | some p =>
      obtain ⟨b, O2⟩ := p
      rw [z] at w
      obtain ⟨h2, k2, w1, w2, w3⟩ := w
      rw [w1]
      cases b with
      | false => exact ⟨none, h2, k2, rfl, w2, w3, trivial⟩
      | true =>
        dsimp only
        exact ((hE (H.mono w2.em) w3 (S1.mono w2)).weak w2).opt
mutual
theorem simE : ∀ (e : Ex) {C : Cfg} {Cv : Dl.Cfg} {k : Gk} {h : Store} {O : Os} {s : Slots} {sv : Dl.Slots}, CR m C Cv → HdR k h C.hd Cv.hd → Inv m k h O → SR k h s sv → SimR m k h (evE C e s O) (Dl.evE Cv e sv h)
  | .v i, C, Cv, k, h, O, s, sv, R, H, I, S => by
    unfold evE Dl.evE
    cases q : s[i]? with
    | none => trivial
    | some x =>
      have a := S.at_ i x q
      cases x with
      | no => trivial
      | sh d =>
        obtain ⟨v, e1, e2⟩ := a
        rw [e1]
        exact .val I e2
      | bx j f =>
        obtain ⟨n, e1, e2⟩ := a
        rw [e1]
        exact ⟨_, h, k, rfl, .refl, I, rfl, _, rfl, e2⟩
      | ow d =>
        obtain ⟨n, o, e1, e2, e3, e4⟩ := a
        rw [e1]
        exact ⟨_, h, k, rfl, .refl, I, n, o, rfl, e2, e3, e4⟩
      | bo d =>
        obtain ⟨n, o, e1, e2, e3, e4⟩ := a
        rw [e1]
        exact ⟨_, h, k, rfl, .refl, I, n, o, rfl, e2, e3, e4⟩
  | .k c, C, Cv, k, h, O, s, sv, R, H, I, S => by
    unfold evE Dl.evE
    cases c <;> first | exact .val I .non | exact .val I (.bl _) | exact .val I (.int _) | exact .val I (.str _) | trivial
  | .g i, C, Cv, k, h, O, s, sv, R, H, I, S => by
    unfold evE Dl.evE
    rw [R.gl]
    cases q : C.gl[i]? with
    | none => trivial
    | some v => exact .val I (rep_dOf v (plainVs_all.mp R.pl v (List.mem_of_getElem? q)))
  | .tup es, C, Cv, k, h, O, s, sv, R, H, I, S => by
    unfold evE Dl.evE
    refine (simL es R H I S).bind fun l O v h' k' e I1 r1 => ?_
    cases q : allShr l with
    | none => trivial
    | some ds => exact .val I1 (.tup (r1.shr q))
  | .lst es, C, Cv, k, h, O, s, sv, R, H, I, S => by
    unfold evE Dl.evE
    refine (simL es R H I S).bind fun l O v h' k' e I1 r1 => ?_
    cases q : allShr l with
    | none => trivial
    | some ds => exact .new I1 (r1.shr q)
  | .dct0, C, Cv, k, h, O, s, sv, R, H, I, S => by
    unfold evE Dl.evE
    exact .new I .nil
  | .bin o a b, C, Cv, k, h, O, s, sv, R, H, I, S => by
    unfold evE Dl.evE
    refine (simE a R H I S).bind fun x fx O v1 h1 k1 e1 I1 r1 => ?_
    refine (simE b R (H.mono e1.em) I1 (S.mono e1)).bind fun y fy O v2 h2 k2 e2 I2 r2 => ?_
    exact .of I2 fun d b z => binop_ok z ((r1.mono e2).vw I2) (r2.vw I2)
  | .neg a, C, Cv, k, h, O, s, sv, R, H, I, S => by
    unfold evE Dl.evE
    refine (simE a R H I S).bind fun x fx O v1 h1 k1 e1 I1 r1 => ?_
    cases x with
    | int i => rw [(r1.rep rfl).vw.int]; exact .val I1 (.int _)
    | _ => trivial
  | .nt a, C, Cv, k, h, O, s, sv, R, H, I, S => by
    unfold evE Dl.evE
    refine (simE a R H I S).bind fun x fx O v1 h1 k1 e1 I1 r1 => ?_
    cases q : truthy (cur O x fx) with
    | none => trivial
    | some b => rw [truthy_ok q (r1.vw I1)]; exact .val I1 (.bl _)
  | .an es, C, Cv, k, h, O, s, sv, R, H, I, S => by
    unfold evE Dl.evE
    exact simA es R H I S
  | .or es, C, Cv, k, h, O, s, sv, R, H, I, S => by
    unfold evE Dl.evE
    exact simO es R H I S
  | .cmp o a b, C, Cv, k, h, O, s, sv, R, H, I, S => by
    unfold evE Dl.evE
    refine (simE a R H I S).bind fun x fx O v1 h1 k1 e1 I1 r1 => ?_
    refine (simE b R (H.mono e1.em) I1 (S.mono e1)).bind fun y fy O v2 h2 k2 e2 I2 r2 => ?_
    cases q : cmpo C.gl o (cur O x fx) (cur O y fy) with
    | none => trivial
    | some c => rw [R.gl, cmpo_ok q ((r1.mono e2).vw I2) (r2.vw I2)]; exact .val I2 (.bl _)
  | .cmp2 o p a b c, C, Cv, k, h, O, s, sv, R, H, I, S => by
    unfold evE Dl.evE
    refine (simE a R H I S).bind fun x fx O v1 h1 k1 e1 I1 r1 => ?_
    refine (simE b R (H.mono e1.em) I1 (S.mono e1)).bind fun y fy O v2 h2 k2 e2 I2 r2 => ?_
    cases q : cmpo C.gl o (cur O x fx) (cur O y fy) with
    | none => trivial
    | some d =>
      rw [R.gl, cmpo_ok q ((r1.mono e2).vw I2) (r2.vw I2)]
      cases d with
      | false => exact .val I2 (.bl _)
      | true =>
        dsimp only
        refine (simE c R (H.mono (e1.trans e2).em) I2 (S.mono (e1.trans e2))).bind fun z fz O v3 h3 k3 e3 I3 r3 => ?_
        cases q : cmpo C.gl p (cur O y fy) (cur O z fz) with
        | none => trivial
        | some d => rw [cmpo_ok q ((r2.mono e3).vw I3) (r3.vw I3)]; exact .val I3 (.bl _)
  | .call f es, C, Cv, k, h, O, s, sv, R, H, I, S => by
    unfold evE Dl.evE
    refine (simL es R H I S).bind fun l O v h' k' e I1 r1 => ?_
    cases q : toArgs l with
    | none => trivial
    | some as => exact R.run f as O k' h' v I1 (r1.args q)
  | .mk c es, C, Cv, k, h, O, s, sv, R, H, I, S => by
    unfold evE Dl.evE
    refine (simL es R H I S).bind fun l O vs h1 k1 e I1 r1 => ?_
    cases q : toArgs l with
    | none => trivial
    | some as =>
      rw [R.cls]
      dsimp only
      cases q2 : C.cls[c]? with
      | none => trivial
      | some kl =>
        dsimp only
        cases q3 : kl.init with
        | none => trivial
        | some f =>
          dsimp only
          obtain ⟨I2, e2⟩ := I1.newO c
          have ob : (k1.put h1.length (.obj O.length)) h1.length = .obj O.length := put_same
          refine SimR.weak e2 ((R.run f _ _ _ _ (.ref h1.length :: vs) I2 (.cons (x := .sh (.obj O.length)) (Rep.obj ob) ((r1.args q).mono e2.em e2.heldS))).bind fun x fx O3 v3 h3 k3 e3 I3 r3 => ?_)
          by_cases z : isN x = true
          · rw [if_pos z]
            cases x <;> first | (cases z; done) | skip
            rw [if_pos (r3.rep rfl).vw.non]
            have e23 : k3 h1.length = .obj O.length := e3.em.obj _ _ ob
            exact .val I3 (.obj e23)
          · rw [if_neg z]
            trivial
  | .meth mm o es, C, Cv, k, h, O, s, sv, R, H, I, S => by
    unfold evE Dl.evE
    refine (simE o R H I S).bind fun x fx O v1 h1 k1 e1 I1 r1 => ?_
    cases x with
    | obj n =>
      obtain ⟨a, rfl, ka⟩ := (r1.rep rfl).vw.obj
      obtain ⟨oj, l, o1, o2, o3⟩ := I1.obs a n ka
      rw [R.cls]
      dsimp only
      rw [o1, o2]
      dsimp only
      cases q2 : C.cls[oj.c]? with
      | none => trivial
      | some kl =>
        dsimp only
        cases q3 : kl.meths.lookup mm with
        | none => trivial
        | some f =>
          dsimp only
          refine (simL es R (H.mono e1.em) I1 (S.mono e1)).bind fun l O2 vs h2 k2 e2 I2 r2 => ?_
          cases q : toArgs l with
          | none => trivial
          | some as => exact R.run f _ O2 k2 h2 (.ref a :: vs) I2 (.cons (x := .sh (.obj n)) (Rep.obj (e2.em.obj _ _ ka)) (r2.args q))
    | _ => trivial
  | .bi b es, C, Cv, k, h, O, s, sv, R, H, I, S => by
    unfold evE Dl.evE
    refine (simL es R H I S).bind fun l O v h' k' e I1 r1 => ?_
    exact .of I1 fun d c z => bfn_ok z (r1.vws I1)
  | .bm b o es, C, Cv, k, h, O, s, sv, R, H, I, S => by
    unfold evE
    trivial
  | .fld o f, C, Cv, k, h, O, s, sv, R, H, I, S => by
    unfold evE Dl.evE
    refine (simE o R H I S).bind fun x fx O v1 h1 k1 e1 I1 r1 => ?_
    cases x with
    | obj n =>
      obtain ⟨a, rfl, ka⟩ := (r1.rep rfl).vw.obj
      obtain ⟨oj, l, o1, o2, o3⟩ := I1.obs a n ka
      dsimp only
      rw [o2]
      dsimp only
      cases q : fldOf O n f with
      | none => trivial
      | some d =>
        unfold fldOf at q
        rw [o1] at q
        obtain ⟨v, q1, q2⟩ := o3.get q
        rw [q1, R.mu]
        dsimp only
        by_cases c : m.mu f = true
        · rw [if_pos c] at q2 ⊢
          obtain ⟨n2, rfl, q3⟩ := q2
          exact ⟨_, h1, k1, rfl, .refl, I1, rfl, n2, rfl, q3⟩
        · rw [if_neg c] at q2 ⊢
          exact .val I1 q2
    | hx =>
      rw [(r1.rep rfl).vw.hx]
      have H1 := H.mono e1.em
      unfold HdR at H1
      dsimp only
      split at H1
      · rename_i z1 z2
        rw [z1]
        trivial
      · rename_i c ds c' vs z1 z2
        rw [z1, z2]
        cases H1.2 with
        | nil => trivial
        | cons a r => exact .val I1 a
      · exact H1.elim
    | _ => trivial
  | .ix a b, C, Cv, k, h, O, s, sv, R, H, I, S => by
    unfold evE Dl.evE
    refine (simE a R H I S).bind fun x fx O v1 h1 k1 e1 I1 r1 => ?_
    refine (simE b R (H.mono e1.em) I1 (S.mono e1)).bind fun y fy O v2 h2 k2 e2 I2 r2 => ?_
    have w1 := (r1.mono e2).vw I2
    have w2 := r2.vw I2
    by_cases nn : nsts C fx = true
    rotate_left
    · rw [if_neg nn]
      cases q : item C.gl (cur O x fx) (cur O y fy) with
      | none => trivial
      | some d =>
        have c' : isOwn d = false := by
          cases hd : isOwn d with
          | false => rfl
          | true => exact absurd (item_nst R I2 (r1.mono e2) q hd) nn
        obtain ⟨v, z1, z2⟩ := item_ok q w1 w2 c'
        rw [R.gl, z1]
        exact .val I2 z2
    rw [if_pos nn]
    cases q : item C.gl (cur O x fx) (cur O y fy) with
    | none => trivial
    | some d =>
      by_cases c : isOwn d = true
      · cases d <;> first | (cases c; done) | skip
        rename_i l0
        obtain ⟨ps, ky, c1, c2, c3, c4⟩ := item_own q w1
        dsimp only
        rw [c2]
        cases fx with
        | hf i f =>
          obtain ⟨_, n, rfl, kn⟩ := r1.mono e2
          obtain ⟨d2, o, f1, f2, f3⟩ := I2.fls n i f kn
          have c1' : cur O x (.hf i f) = d2 := by unfold cur; dsimp only; rw [f1]; rfl
          rw [c1] at c1'
          subst c1'
          dsimp only
          cases o with
          | dct l =>
            obtain ⟨w, g1, g2⟩ := RepG.dct (x := y) (ps := ps) f3 c2 c3 c4 w2
            rw [R.gl]
            unfold Dl.item
            dsimp only
            rw [f2]
            dsimp only
            rw [g1]
            obtain ⟨mm, rfl, z⟩ := g2
            exact ⟨_, h2, k2, rfl, .refl, I2, rfl, mm, rfl, z⟩
          | _ => exact f3.elim
        | _ => trivial
      · have c' : isOwn d = false := by simpa using c
        cases d <;> first | (cases c'; done) | trivial
  | .sl a lo hi, C, Cv, k, h, O, s, sv, R, H, I, S => by
    unfold evE Dl.evE
    refine (simE a R H I S).bind fun x fx O v1 h1 k1 e1 I1 r1 => ?_
    refine simP lo R (H.mono e1.em) I1 (S.mono e1) fun i O2 h2 k2 e2 I2 => ?_
    refine simP hi R (H.mono (e1.trans e2).em) I2 (S.mono (e1.trans e2)) fun j O3 h3 k3 e3 I3 => ?_
    exact .of I3 fun d c z => slc_ok z ((r1.mono (e2.trans e3)).vw I3)
  | .ife c a b, C, Cv, k, h, O, s, sv, R, H, I, S => by
    unfold evE Dl.evE
    refine (simE c R H I S).bind fun x fx O v1 h1 k1 e1 I1 r1 => ?_
    cases q : truthy (cur O x fx) with
    | none => trivial
    | some t =>
      rw [truthy_ok q (r1.vw I1)]
      cases t with
      | true => exact simE a R (H.mono e1.em) I1 (S.mono e1)
      | false => exact simE b R (H.mono e1.em) I1 (S.mono e1)
  | .comp elt t it cond own, C, Cv, k, h, O, s, sv, R, H, I, S => by
    rw [evE_comp, Dl.evE_comp]
    refine (simE it R H I S).bind fun d fd O v1 h1 k1 e1 I1 r1 => ?_
    cases q : iter (cur O d fd) with
    | none => trivial
    | some ds =>
      obtain ⟨l, n, q1, q2, q3⟩ := iter_ok q (r1.vw I1)
      rw [q1]
      dsimp only
      by_cases c : ds.length ≤ sizeLine
      · rw [if_pos c, if_pos (by rw [← q2.length]; exact c)]
        have w := goC_ok (m := m) (k := k1) (h := h1) (chk := stay (cur O d fd) fd) (cv := fun h => Dl.stays h l n) (f := turnC C t cond elt own s) (g := Dl.turnC Cv t cond elt own sv) (fun k' h' O' ev I' z => stay_ok I1 r1 q2 q3 ev I' z) (fun x v k' h' O' ev I' rx => simT elt t cond own (fun H I S => simE elt R H I S) (fun H I S => simC cond R H I S) (H.mono (e1.trans ev).em) I' (S.mono (e1.trans ev)) rx) ds (acc := []) (accv := []) .refl I1 q2 .nil
        split at w
        · rename_i r O' z
          obtain ⟨vs, h2, k2, w1, w2, w3, w4⟩ := w
          rw [z, w1]
          exact (SimR.new (d := .lst (r.map Prod.fst)) (o := .lst vs) w3 w4).weak w2
        · exact w.elim
        · rename_i z
          rw [z]
          trivial
      · rw [if_neg c]
        trivial
  | .compR elt t es cond own, C, Cv, k, h, O, s, sv, R, H, I, S => by
    rw [evE_compR, Dl.evE_compR]
    refine (simL es R H I S).bind fun vs O v1 h1 k1 e1 I1 r1 => ?_
    cases q : rngI (curs O vs) with
    | none => trivial
    | some ds =>
      obtain ⟨l, q1, q2⟩ := rngI_ok q (r1.vws I1)
      rw [q1]
      dsimp only
      by_cases c : ds.length ≤ sizeLine
      · rw [if_pos c, if_pos (by rw [← q2.length]; exact c)]
        have w := goC_ok (m := m) (k := k1) (h := h1) (chk := fun _ => true) (cv := fun _ => true) (f := turnC C t cond elt own s) (g := Dl.turnC Cv t cond elt own sv) (fun k' h' O' ev I' z => rfl) (fun x v k' h' O' ev I' rx => simT elt t cond own (fun H I S => simE elt R H I S) (fun H I S => simC cond R H I S) (H.mono (e1.trans ev).em) I' (S.mono (e1.trans ev)) rx) ds (acc := []) (accv := []) .refl I1 q2 .nil
        split at w
        · rename_i r O' z
          obtain ⟨vs, h2, k2, w1, w2, w3, w4⟩ := w
          rw [z, w1]
          exact (SimR.new (d := .lst (r.map Prod.fst)) (o := .lst vs) w3 w4).weak w2
        · exact w.elim
        · rename_i z
          rw [z]
          trivial
      · rw [if_neg c]
        trivial
  | .isx a c, C, Cv, k, h, O, s, sv, R, H, I, S => by
    unfold evE Dl.evE
    refine (simE a R H I S).bind fun x fx O v1 h1 k1 e1 I1 r1 => ?_
    cases x with
    | hx =>
      rw [(r1.rep rfl).vw.hx]
      have H1 := H.mono e1.em
      unfold HdR at H1
      dsimp only
      split at H1
      · rename_i z1 z2
        rw [z1]
        trivial
      · rename_i c1 ds c' vs z1 z2
        rw [z1, z2, R.cls]
        obtain ⟨rfl, _⟩ := H1
        dsimp only
        cases q : C.cls[c1]? with
        | none => trivial
        | some kl => exact .val I1 (.bl _)
      · exact H1.elim
    | _ => trivial
  | .dl b o, C, Cv, k, h, O, s, sv, R, H, I, S => by
    unfold evE Dl.evE
    refine (simE o R H I S).bind fun x fx O v1 h1 k1 e1 I1 r1 => ?_
    cases q : dlf b (cur O x fx) with
    | none => trivial
    | some d => exact (dlf_ok q (r1.vw I1)).sim I1
theorem simC : ∀ (c : Option Ex) {C : Cfg} {Cv : Dl.Cfg} {k : Gk} {h : Store} {O : Os} {s : Slots} {sv : Dl.Slots}, CR m C Cv → HdR k h C.hd Cv.hd → Inv m k h O → SR k h s sv →
    match evC C c s O with
    | some (b, O') => ∃ h' k', Dl.evC Cv c sv h = some (b, h') ∧ Ev k h k' h' ∧ Inv m k' h' O'
    | none => True
  | none, C, Cv, k, h, O, s, sv, R, H, I, S => by
    unfold evC Dl.evC
    exact ⟨h, k, rfl, .refl, I⟩
  | some c, C, Cv, k, h, O, s, sv, R, H, I, S => by
    unfold evC Dl.evC
    have w := simE c R H I S
    cases q : evE C c s O with
    | bad => trivial
    | exc => trivial
    | ok d fl O2 =>
      rw [q] at w
      obtain ⟨v, h2, k2, w1, w2, w3, w4⟩ := w
      rw [w1]
      dsimp only
      cases z : truthy (cur O2 d fl) with
      | none => trivial
      | some b => rw [truthy_ok z (w4.vw w3)]; exact ⟨h2, k2, rfl, w2, w3⟩
theorem simP : ∀ (o : Option Ex) {C : Cfg} {Cv : Dl.Cfg} {k : Gk} {h : Store} {O : Os} {s : Slots} {sv : Dl.Slots} {f : Option Int → Os → R} {g : Option Int → Store → Dl.R}, CR m C Cv → HdR k h C.hd Cv.hd → Inv m k h O → SR k h s sv →
    (∀ i O' h' k', Ev k h k' h' → Inv m k' h' O' → SimR m k' h' (f i O') (g i h')) → SimR m k h (evP C o s O f) (Dl.evP Cv o sv h g)
  | none, C, Cv, k, h, O, s, sv, f, g, R, H, I, S, q => by
    unfold evP Dl.evP
    exact q none O h k .refl I
  | some e, C, Cv, k, h, O, s, sv, f, g, R, H, I, S, q => by
    unfold evP Dl.evP
    refine (simE e R H I S).bind fun x fx O v1 h1 k1 e1 I1 r1 => ?_
    cases x with
    | int i => rw [(r1.rep rfl).vw.int]; exact q (some i) O h1 k1 e1 I1
    | _ => trivial
theorem simL : ∀ (es : List Ex) {C : Cfg} {Cv : Dl.Cfg} {k : Gk} {h : Store} {O : Os} {s : Slots} {sv : Dl.Slots}, CR m C Cv → HdR k h C.hd Cv.hd → Inv m k h O → SR k h s sv → SimL m k h (evL C es s O) (Dl.evL Cv es sv h)
  | [], C, Cv, k, h, O, s, sv, R, H, I, S => by
    unfold evL Dl.evL
    exact ⟨[], h, k, rfl, .refl, I, .nil⟩
  | e :: es, C, Cv, k, h, O, s, sv, R, H, I, S => by
    unfold evL Dl.evL
    refine (simE e R H I S).bindl fun x fx O v1 h1 k1 e1 I1 r1 => ?_
    obtain ⟨k2, I2, e2, r2⟩ := r1.freezeF I1 e1
    have q := simL es R (H.mono e2.em) I2 (S.mono e2)
    cases z : evL C es s O with
    | bad => trivial
    | exc c fs O2 =>
      rw [z] at q
      obtain ⟨vs, h3, k3, q1, q2, q3, q4⟩ := q
      rw [q1]
      exact ⟨vs, h3, k3, rfl, e2.trans q2, q3, q4⟩
    | ok l O2 =>
      rw [z] at q
      obtain ⟨vs, h3, k3, q1, q2, q3, q4⟩ := q
      rw [q1]
      exact ⟨_, h3, k3, rfl, e2.trans q2, q3, .cons (r2.mono q2).frzAny q4⟩
theorem simA : ∀ (es : List Ex) {C : Cfg} {Cv : Dl.Cfg} {k : Gk} {h : Store} {O : Os} {s : Slots} {sv : Dl.Slots}, CR m C Cv → HdR k h C.hd Cv.hd → Inv m k h O → SR k h s sv → SimR m k h (evA C es s O) (Dl.evA Cv es sv h)
  | [], C, Cv, k, h, O, s, sv, R, H, I, S => by
    unfold evA
    trivial
  | [e], C, Cv, k, h, O, s, sv, R, H, I, S => by
    unfold evA Dl.evA
    exact simE e R H I S
  | e :: f :: es, C, Cv, k, h, O, s, sv, R, H, I, S => by
    unfold evA Dl.evA
    refine (simE e R H I S).bind0 fun x fx O v1 h1 k1 e1 I1 r1 => ?_
    cases q : truthy (cur O x fx) with
    | none => trivial
    | some b =>
      rw [truthy_ok q (r1.vw I1)]
      cases b with
      | true => exact (simA (f :: es) R (H.mono e1.em) I1 (S.mono e1)).weak e1
      | false => exact ⟨v1, h1, k1, rfl, e1, I1, r1⟩
theorem simO : ∀ (es : List Ex) {C : Cfg} {Cv : Dl.Cfg} {k : Gk} {h : Store} {O : Os} {s : Slots} {sv : Dl.Slots}, CR m C Cv → HdR k h C.hd Cv.hd → Inv m k h O → SR k h s sv → SimR m k h (evO C es s O) (Dl.evO Cv es sv h)
  | [], C, Cv, k, h, O, s, sv, R, H, I, S => by
    unfold evO
    trivial
  | [e], C, Cv, k, h, O, s, sv, R, H, I, S => by
    unfold evO Dl.evO
    exact simE e R H I S
  | e :: f :: es, C, Cv, k, h, O, s, sv, R, H, I, S => by
    unfold evO Dl.evO
    refine (simE e R H I S).bind0 fun x fx O v1 h1 k1 e1 I1 r1 => ?_
    cases q : truthy (cur O x fx) with
    | none => trivial
    | some b =>
      rw [truthy_ok q (r1.vw I1)]
      cases b with
      | false => exact (simO (f :: es) R (H.mono e1.em) I1 (S.mono e1)).weak e1
      | true => exact ⟨v1, h1, k1, rfl, e1, I1, r1⟩
end
end
end Pu
set_option Elab.async false
set_option linter.all false
set_option maxRecDepth 100000
set_option maxHeartbeats 4000000
/-! Changes in place. -/
namespace Pu
open PySem (Str sizeLine PyData)
open Dl (Va Ob Store Bop Cop Bi Bm Tyk Tg Ex)
section
variable {m : Mdl} {k k' k'' k0 : Gk} {h h' h'' : Store} {O : Os} {C : Cfg} {Cv : Dl.Cfg}
theorem lkF_put {f g : Nat} {d : D} : ∀ {l : List (Nat × D)}, lkF g (putF f d l) = if g = f then some d else lkF g l
  | [] => by
    unfold putF lkF
    by_cases c : g = f
    · subst c; simp
    · have : (f == g) = false := by simpa using Ne.symm c
      simp [this, c]
  | (a, w) :: l => by
    have ih := lkF_put (f := f) (g := g) (d := d) (l := l)
    unfold putF
    by_cases c : a = f
    · subst c
      rw [if_pos rfl]
      unfold lkF
      by_cases c2 : g = a
      · subst c2; simp
      · have : (a == g) = false := by simpa using Ne.symm c2
        simp [this, c2]
    · rw [if_neg c]
      unfold lkF at ih ⊢
      by_cases c2 : a = g
      · subst c2
        simp [c]
      · have : (a == g) = false := by simpa using c2
        simp only [List.find?_cons, this]
        exact ih
theorem fldOf_set {i j f g : Nat} {c : Nat} {fs : List (Nat × D)} {d : D} {oj : Oj} (e : O[i]? = some oj) : fldOf (O.set i ⟨c, putF f d oj.fs⟩) j g = if j = i ∧ g = f then some d else fldOf O j g := by
  have hl := (List.getElem?_eq_some_iff.mp e).1
  unfold fldOf
  by_cases cj : j = i
  · subst cj
    rw [List.getElem?_set_self hl, e]
    simp only [Option.bind_some, lkF_put, true_and]
  · rw [List.getElem?_set_ne (Ne.symm cj), if_neg (fun z => cj z.1)]
theorem Flds.put {i f : Nat} {d : D} {v : Va} (a : if m.mu f = true then ∃ n, v = .ref n ∧ k n = .fld i f else Rep k h d v) : ∀ {l : List (Nat × D)} {r : List (Nat × Va)}, Flds m k h i l r → Flds m k h i (putF f d l) (Dl.putF f v r)
  | _, _, .nil => .cons a .nil
  | _, _, .cons (f := g) b r => by
    unfold putF Dl.putF
    by_cases c : g = f
    · subst c
      rw [if_pos rfl, if_pos rfl]
      exact .cons a r
    · rw [if_neg c, if_neg c]
      exact .cons b (Flds.put a r)
theorem Flds.len {i : Nat} : ∀ {l : List (Nat × D)} {r : List (Nat × Va)}, Flds m k h i l r → l.length = r.length
  | _, _, .nil => rfl
  | _, _, .cons _ r => by simp [Flds.len r]
theorem getSet {α : Type} {l : List α} {i j : Nat} {x y : α} (e : l[i]? = some y) : (l.set i x)[j]? = if j = i then some x else l[j]? := by
  by_cases c : j = i
  · subst c
    rw [if_pos rfl, List.getElem?_set_self (List.getElem?_eq_some_iff.mp e).1]
  · rw [if_neg c, List.getElem?_set_ne (Ne.symm c)]
/-- what is known of a store in which one cell that is not frozen was changed -/
theorem Em.set {a : Nat} {ob : Ob} (ha : k a ≠ .frz) : Em k h k (h.set a ob) := ⟨fun n z => ⟨z, by rw [List.getElem?_set_ne]; rintro rfl; exact ha z⟩, fun _ _ z => z, fun _ _ _ z => z⟩
theorem Inv.setFld {n a f : Nat} {oj : Oj} {l : List (Nat × Va)} {d : D} {v : Va} (I : Inv m k h O) (ka : k a = .obj n) (e1 : O[n]? = some oj) (e2 : h[a]? = some (.ins oj.c l)) (e3 : Flds m k h n oj.fs l) (mf : m.mu f = false) (r : Rep k h d v) :
    Inv m k (h.set a (.ins oj.c (Dl.putF f v l))) (O.set n ⟨oj.c, putF f d oj.fs⟩) ∧ Em k h k (h.set a (.ins oj.c (Dl.putF f v l))) := by
  have em : Em k h k (h.set a (.ins oj.c (Dl.putF f v l))) := Em.set (by rw [ka]; exact fun z => by cases z)
  have hs : ∀ b, b ≠ a → (h.set a (.ins oj.c (Dl.putF f v l)))[b]? = h[b]? := fun b c => List.getElem?_set_ne (Ne.symm c)
  refine ⟨⟨fun b z => by rw [List.length_set]; exact I.lt b z, I.injo, I.injf, I.injn, I.mf, I.mn, fun b i z => ?_, fun b i g z => ?_, fun b i g y z => ?_⟩, em⟩
  · by_cases c : b = a
    · subst c
      rw [ka] at z
      cases z
      refine ⟨_, _, by rw [getSet e1, if_pos rfl], by rw [getSet e2, if_pos rfl], ?_⟩
      exact (Flds.put (by rw [if_neg (by rw [mf]; exact Bool.false_ne_true)]; exact r) e3).mono em
    · obtain ⟨oj', l', o1, o2, o3⟩ := I.obs b i z
      have ci : i ≠ n := by rintro rfl; exact c (I.injo _ _ _ z ka)
      exact ⟨oj', l', by rw [getSet e1, if_neg ci]; exact o1, by rw [hs b c]; exact o2, o3.mono em⟩
  · have c : b ≠ a := by rintro rfl; rw [ka] at z; cases z
    obtain ⟨d', o, o1, o2, o3⟩ := I.fls b i g z
    refine ⟨d', o, ?_, by rw [hs b c]; exact o2, o3.mono em (fun _ _ _ _ z => z)⟩
    rw [fldOf_set (fs := oj.fs) e1, if_neg]
    · exact o1
    · rintro ⟨rfl, rfl⟩
      have := I.mf b _ _ z
      rw [mf] at this
      cases this
  · have c : b ≠ a := by rintro rfl; rw [ka] at z; cases z
    obtain ⟨d', o, o1, o2, o3⟩ := I.nss b i g y z
    refine ⟨d', o, ?_, by rw [hs b c]; exact o2, o3.mono em⟩
    unfold ownOf at o1 ⊢
    rw [fldOf_set (fs := oj.fs) e1, if_neg]
    · exact o1
    · rintro ⟨rfl, rfl⟩
      have := (I.mn b _ _ y z).2
      rw [mf] at this
      cases this
theorem RC.toQ {d : D} {o : Ob} {i f : Nat} (r : RC k h d o) : RCQ k h i f d o := by
  unfold RC at r
  unfold RCQ
  split at r
  · exact r
  · exact r.toQ
  · exact r.elim
theorem fldOf_some {i f : Nat} {d : D} (e : fldOf O i f = some d) : ∃ oj, O[i]? = some oj ∧ lkF f oj.fs = some d := by
  unfold fldOf at e
  cases q : O[i]? with
  | none => rw [q] at e; cases e
  | some oj => rw [q] at e; exact ⟨oj, rfl, e⟩
theorem ownOf_fld {i f : Nat} {y : Ky} {d : D} (e : ownOf O i f y = some d) : ∃ ps l, fldOf O i f = some (.dct ps) ∧ dget ps y = some (.own l) ∧ d = .lst l := by
  unfold ownOf at e
  split at e
  · split at e
    · cases e
      exact ⟨_, _, by assumption, by assumption, rfl⟩
    · cases e
  · cases e
theorem ownOf_of {i f : Nat} {y : Ky} {ps : List (Ky × D)} {l : List D} (e1 : fldOf O i f = some (.dct ps)) (e2 : dget ps y = some (.own l)) : ownOf O i f y = some (.lst l) := by
  unfold ownOf
  rw [e1]
  dsimp only
  rw [e2]
/-- a field's first value, changed in place later -/
theorem Inv.setMut {n a b f : Nat} {oj : Oj} {l : List (Nat × Va)} {d : D} {o : Ob} (I : Inv m k h O) (ka : k a = .obj n) (e1 : O[n]? = some oj) (e2 : h[a]? = some (.ins oj.c l)) (e3 : Flds m k h n oj.fs l) (mf : m.mu f = true) (nf : lkF f oj.fs = none) (kb : k b = .held) (eb : h[b]? = some o) (r : RC k h d o) :
    Inv m (k.put b (.fld n f)) (h.set a (.ins oj.c (Dl.putF f (.ref b) l))) (O.set n ⟨oj.c, putF f d oj.fs⟩) ∧ Em k h (k.put b (.fld n f)) (h.set a (.ins oj.c (Dl.putF f (.ref b) l))) := by
  have ab : a ≠ b := by rintro rfl; rw [ka] at kb; cases kb
  have hs : ∀ c, c ≠ a → (h.set a (.ins oj.c (Dl.putF f (.ref b) l)))[c]? = h[c]? := fun c z => List.getElem?_set_ne (Ne.symm z)
  have nn : ∀ {c : Nat} {x : Kd}, k c = x → x ≠ .held → k.put b (.fld n f) c = x := fun {c x} w w2 => by
    rw [put_ne]
    · exact w
    · rintro rfl
      exact w2 (w.symm.trans kb)
  have bk : ∀ {c : Nat} {x : Kd}, k.put b (.fld n f) c = x → x ≠ .fld n f → k c = x ∧ c ≠ b := fun {c x} w w2 => by
    by_cases z : c = b
    · subst z
      rw [put_same] at w
      exact absurd w.symm w2
    · rw [put_ne z] at w
      exact ⟨w, z⟩
  have em : Em k h (k.put b (.fld n f)) (h.set a (.ins oj.c (Dl.putF f (.ref b) l))) := ⟨fun c z => ⟨nn z (fun q => by cases q), hs c (by rintro rfl; rw [ka] at z; cases z)⟩, fun c i z => nn z (fun q => by cases q), fun c i g z => nn z (fun q => by cases q)⟩
  have ns : ∀ c i g y, k c = .nst i g y → k.put b (.fld n f) c = .nst i g y := fun c i g y z => nn z (fun q => by cases q)
  have none1 : ∀ {c : Nat}, k c ≠ .fld n f := fun {c} z => by
    obtain ⟨d', o', o1, _⟩ := I.fls c n f z
    obtain ⟨oj', p1, p2⟩ := fldOf_some o1
    rw [e1] at p1
    cases p1
    rw [nf] at p2
    cases p2
  have fo : ∀ {i g : Nat} {d' : D}, fldOf O i g = some d' → fldOf (O.set n ⟨oj.c, putF f d oj.fs⟩) i g = some d' := fun {i g d'} z => by
    rw [fldOf_set (fs := oj.fs) e1, if_neg]
    · exact z
    · rintro ⟨rfl, rfl⟩
      obtain ⟨oj', p1, p2⟩ := fldOf_some z
      rw [e1] at p1
      cases p1
      rw [nf] at p2
      cases p2
  have inf : ∀ {c i g : Nat}, k.put b (.fld n f) c = .fld i g → (c = b ∧ i = n ∧ g = f) ∨ (k c = .fld i g ∧ c ≠ b) := fun {c i g} z => by
    by_cases w : c = b
    · subst w
      rw [put_same] at z
      cases z
      exact .inl ⟨rfl, rfl, rfl⟩
    · rw [put_ne w] at z
      exact .inr ⟨z, w⟩
  refine ⟨⟨fun c z => ?_, fun c c' i p q => ?_, fun c c' i g p q => ?_, fun c c' i g y p q => ?_, fun c i g z => ?_, fun c i g y z => ?_, fun c i z => ?_, fun c i g z => ?_, fun c i g y z => ?_⟩, em⟩
  · rw [List.length_set]
    by_cases w : c = b
    · subst w; exact I.lt c (held_ne kb)
    · rw [put_ne w] at z; exact I.lt c z
  · exact I.injo c c' i (bk p (fun q => by cases q)).1 (bk q (fun q => by cases q)).1
  · rcases inf p with ⟨rfl, rfl, rfl⟩ | ⟨p1, p2⟩
    · rcases inf q with ⟨rfl, _, _⟩ | ⟨q1, q2⟩
      · rfl
      · exact absurd q1 none1
    · rcases inf q with ⟨rfl, rfl, rfl⟩ | ⟨q1, q2⟩
      · exact absurd p1 none1
      · exact I.injf _ _ _ _ p1 q1
  · exact I.injn c c' i g y (bk p (fun q => by cases q)).1 (bk q (fun q => by cases q)).1
  · rcases inf z with ⟨rfl, rfl, rfl⟩ | ⟨z1, _⟩
    · exact mf
    · exact I.mf _ _ _ z1
  · exact I.mn c i g y (bk z (fun q => by cases q)).1
  · obtain ⟨z1, z2⟩ := bk z (fun q => by cases q)
    by_cases w : c = a
    · subst w
      rw [ka] at z1
      cases z1
      refine ⟨_, _, by rw [getSet e1, if_pos rfl], by rw [getSet e2, if_pos rfl], ?_⟩
      exact Flds.put (by rw [if_pos mf]; exact ⟨b, rfl, put_same⟩) (e3.mono em)
    · obtain ⟨oj', l', o1, o2, o3⟩ := I.obs c i z1
      have ci : i ≠ n := by rintro rfl; exact w (I.injo _ _ _ z1 ka)
      exact ⟨oj', l', by rw [getSet e1, if_neg ci]; exact o1, by rw [hs c w]; exact o2, o3.mono em⟩
  · rcases inf z with ⟨rfl, rfl, rfl⟩ | ⟨z1, z2⟩
    · exact ⟨d, o, by rw [fldOf_set (fs := oj.fs) e1, if_pos ⟨rfl, rfl⟩], by rw [hs _ (Ne.symm ab)]; exact eb, (r.mono em).toQ⟩
    · obtain ⟨d', o', o1, o2, o3⟩ := I.fls c i g z1
      exact ⟨d', o', fo o1, by rw [hs c (by rintro rfl; rw [ka] at z1; cases z1)]; exact o2, o3.mono em ns⟩
  · obtain ⟨z1, z2⟩ := bk z (fun q => by cases q)
    obtain ⟨d', o', o1, o2, o3⟩ := I.nss c i g y z1
    obtain ⟨ps, l1, p1, p2, p3⟩ := ownOf_fld o1
    cases p3
    exact ⟨d', o', ownOf_of (fo p1) p2, by rw [hs c (by rintro rfl; rw [ka] at z1; cases z1)]; exact o2, o3.mono em⟩
theorem Flds.repl {i f : Nat} {d0 d : D} (mf : m.mu f = true) {l : List (Nat × D)} {r : List (Nat × Va)} (e : lkF f l = some d0) (q : Flds m k h i l r) : Flds m k h i (putF f d l) r := by
  induction q with
  | nil => cases e
  | cons b r ih =>
    rename_i g d1 v1 l r0
    unfold putF
    by_cases c : g = f
    · subst c
      rw [if_pos rfl]
      refine .cons ?_ r
      rw [if_pos mf] at b ⊢
      exact b
    · rw [if_neg c]
      refine .cons b (ih ?_)
      unfold lkF at e ⊢
      have : (g == f) = false := by simpa using c
      simpa [this] using e
/-- a field's container changed in place -/
theorem Inv.putFld {n b f : Nat} {oj : Oj} {d0 d : D} {o : Ob} (I : Inv m k h O) (kb : k b = .fld n f) (e1 : O[n]? = some oj) (e0 : lkF f oj.fs = some d0) (ns : m.ns f = false) (r : RCQ k h n f d o) :
    Inv m k (h.set b o) (O.set n ⟨oj.c, putF f d oj.fs⟩) ∧ Em k h k (h.set b o) := by
  have em : Em k h k (h.set b o) := Em.set (by rw [kb]; exact fun z => by cases z)
  have hs : ∀ c, c ≠ b → (h.set b o)[c]? = h[c]? := fun c z => List.getElem?_set_ne (Ne.symm z)
  have hb : b < h.length := I.lt b (by rw [kb]; exact fun z => by cases z)
  have fo : ∀ {i g : Nat} {d' : D}, ¬ (i = n ∧ g = f) → fldOf O i g = some d' → fldOf (O.set n ⟨oj.c, putF f d oj.fs⟩) i g = some d' := fun {i g d'} w z => by
    rw [fldOf_set (fs := oj.fs) e1, if_neg w]
    exact z
  refine ⟨⟨fun c z => by rw [List.length_set]; exact I.lt c z, I.injo, I.injf, I.injn, I.mf, I.mn, fun c i z => ?_, fun c i g z => ?_, fun c i g y z => ?_⟩, em⟩
  · have cb : c ≠ b := by rintro rfl; rw [kb] at z; cases z
    obtain ⟨oj', l', o1, o2, o3⟩ := I.obs c i z
    by_cases ci : i = n
    · subst ci
      rw [e1] at o1
      cases o1
      exact ⟨_, l', by rw [getSet e1, if_pos rfl], by rw [hs c cb]; exact o2, Flds.repl (I.mf _ _ _ kb) e0 (o3.mono em)⟩
    · exact ⟨oj', l', by rw [getSet e1, if_neg ci]; exact o1, by rw [hs c cb]; exact o2, o3.mono em⟩
  · by_cases cb : c = b
    · subst cb
      rw [kb] at z
      cases z
      exact ⟨d, o, by rw [fldOf_set (fs := oj.fs) e1, if_pos ⟨rfl, rfl⟩], List.getElem?_set_self hb, r.mono em (fun _ _ _ _ z => z)⟩
    · obtain ⟨d', o', o1, o2, o3⟩ := I.fls c i g z
      exact ⟨d', o', fo (by rintro ⟨rfl, rfl⟩; exact cb (I.injf _ _ _ _ z kb)) o1, by rw [hs c cb]; exact o2, o3.mono em (fun _ _ _ _ z => z)⟩
  · obtain ⟨d', o', o1, o2, o3⟩ := I.nss c i g y z
    obtain ⟨ps, l1, p1, p2, p3⟩ := ownOf_fld o1
    cases p3
    have cb : c ≠ b := by rintro rfl; rw [kb] at z; cases z
    exact ⟨_, o', ownOf_of (fo (by rintro ⟨rfl, rfl⟩; have := (I.mn c _ _ y z).1; rw [ns] at this; cases this) p1) p2, by rw [hs c cb]; exact o2, o3.mono em⟩
theorem dget_put {l : List (Ky × D)} {y z : Ky} {d : D} : dget (dput l y d) z = if z = y then some d else dget l z := by
  unfold dput
  split
  · rename_i c
    induction l with
    | nil => simp at c
    | cons p l ih =>
      unfold dget at ih ⊢
      rw [List.map_cons]
      by_cases cp : p.1 = y
      · rw [if_pos cp]
        by_cases cz : z = y
        · subst cz
          simp [cp]
        · have : ¬ y = z := fun w => cz w.symm
          simp only [List.find?_cons, cp, decide_eq_false this, if_neg cz]
          by_cases cl : (l.any fun p => decide (p.1 = y)) = true
          · have := ih cl
            rw [if_neg cz] at this
            exact this
          · congr 1
            have : l.map (fun p => if p.1 = y then (p.1, d) else p) = l := by
              have key : ∀ q ∈ l, (if q.1 = y then (q.1, d) else q) = q := fun q hq => by
                rw [if_neg]
                intro w
                exact cl (List.any_eq_true.mpr ⟨q, hq, by simpa using w⟩)
              exact (List.map_congr_left key).trans (List.map_id _)
            rw [this]
      · rw [if_neg cp]
        have cl : (l.any fun p => decide (p.1 = y)) = true := by simpa [cp] using c
        by_cases cz : p.1 = z
        · have zy : ¬ z = y := fun w => cp (cz.trans w)
          simp [cz, zy]
        · simp only [List.find?_cons, decide_eq_false cz]
          exact ih cl
  · rename_i c
    have c' : ∀ q ∈ l, ¬ q.1 = y := fun q hq w => c (List.any_eq_true.mpr ⟨q, hq, by simpa using w⟩)
    unfold dget
    rw [List.find?_append]
    by_cases cz : z = y
    · subst cz
      have : (l.find? fun p => decide (p.1 = z)) = none := by
        rw [List.find?_eq_none]
        intro q hq
        simpa using c' q hq
      simp [this]
    · have : ¬ y = z := fun w => cz w.symm
      simp [cz, this]
theorem dget_putO {l : List (Ky × D)} {y z : Ky} {v : List D} : dget (dputO l y v) z = if z = y then (match dget l y with | some (.own _) => some (.own v) | o => o) else dget l z := by
  induction l with
  | nil => by_cases c : z = y <;> simp [dget, dputO, c]
  | cons p l ih =>
    unfold dget dputO at ih ⊢
    rw [List.map_cons]
    by_cases cp : p.1 = y
    · rw [if_pos cp]
      by_cases cz : z = y
      · subst cz
        obtain ⟨p1, p2⟩ := p
        cases p2 <;> simp_all
      · have : ¬ y = z := fun w => cz w.symm
        obtain ⟨p1, p2⟩ := p
        simp only at cp
        subst cp
        rw [if_neg cz] at ih ⊢
        cases p2 <;> simp only [List.find?_cons, decide_eq_false this] <;> exact ih
    · rw [if_neg cp]
      by_cases cz : p.1 = z
      · have zy : ¬ z = y := fun w => cp (cz.trans w)
        simp [cz, zy]
      · simp only [List.find?_cons, decide_eq_false cz, decide_eq_false cp]
        exact ih
theorem RepQ.putO {i f : Nat} {y : Ky} {v : List D} : ∀ {ps : List (Ky × D)} {l : List (Va × Va)}, RepQ k h i f ps l → RepQ k h i f (dputO ps y v) l
  | _, _, .nil => .nil
  | _, _, .cons (y := z) (d := d) a r => by
    unfold dputO
    rw [List.map_cons]
    by_cases c : z = y
    · subst c
      rw [if_pos rfl]
      cases d <;> exact .cons a (RepQ.putO r)
    · rw [if_neg c]
      exact .cons a (RepQ.putO r)
/-- a list of a field's dict changed in place -/
theorem Inv.putHk {n b f : Nat} {y : Ky} {oj : Oj} {ps : List (Ky × D)} {ds ds' : List D} {l' : List Va} (I : Inv m k h O) (kb : k b = .nst n f y) (e1 : O[n]? = some oj) (e0 : lkF f oj.fs = some (.dct ps)) (e2 : dget ps y = some (.own ds)) (r : Reps k h ds' l') :
    Inv m k (h.set b (.lst l')) (O.set n ⟨oj.c, putF f (.dct (dputO ps y ds')) oj.fs⟩) ∧ Em k h k (h.set b (.lst l')) := by
  have em : Em k h k (h.set b (.lst l')) := Em.set (by rw [kb]; exact fun z => by cases z)
  have hs : ∀ c, c ≠ b → (h.set b (.lst l'))[c]? = h[c]? := fun c z => List.getElem?_set_ne (Ne.symm z)
  have hb : b < h.length := I.lt b (by rw [kb]; exact fun z => by cases z)
  have f0 : fldOf O n f = some (.dct ps) := by unfold fldOf; rw [e1]; exact e0
  have fo : ∀ {i g : Nat} {d' : D}, ¬ (i = n ∧ g = f) → fldOf O i g = some d' → fldOf (O.set n ⟨oj.c, putF f (.dct (dputO ps y ds')) oj.fs⟩) i g = some d' := fun {i g d'} w z => by
    rw [fldOf_set (fs := oj.fs) e1, if_neg w]
    exact z
  have f1 : fldOf (O.set n ⟨oj.c, putF f (.dct (dputO ps y ds')) oj.fs⟩) n f = some (.dct (dputO ps y ds')) := by rw [fldOf_set (fs := oj.fs) e1, if_pos ⟨rfl, rfl⟩]
  refine ⟨⟨fun c z => by rw [List.length_set]; exact I.lt c z, I.injo, I.injf, I.injn, I.mf, I.mn, fun c i z => ?_, fun c i g z => ?_, fun c i g w z => ?_⟩, em⟩
  · have cb : c ≠ b := by rintro rfl; rw [kb] at z; cases z
    obtain ⟨oj', l', o1, o2, o3⟩ := I.obs c i z
    by_cases ci : i = n
    · subst ci
      rw [e1] at o1
      cases o1
      exact ⟨_, l', by rw [getSet e1, if_pos rfl], by rw [hs c cb]; exact o2, Flds.repl (I.mn _ _ _ _ kb).2 e0 (o3.mono em)⟩
    · exact ⟨oj', l', by rw [getSet e1, if_neg ci]; exact o1, by rw [hs c cb]; exact o2, o3.mono em⟩
  · have cb : c ≠ b := by rintro rfl; rw [kb] at z; cases z
    obtain ⟨d', o', o1, o2, o3⟩ := I.fls c i g z
    by_cases w : i = n ∧ g = f
    · obtain ⟨rfl, rfl⟩ := w
      rw [f0] at o1
      cases o1
      refine ⟨_, o', f1, by rw [hs c cb]; exact o2, ?_⟩
      cases o' with
      | dct lv => exact RepQ.putO (RepQ.mono em (fun _ _ _ _ z => z) o3)
      | _ => exact o3.elim
    · exact ⟨d', o', fo w o1, by rw [hs c cb]; exact o2, o3.mono em (fun _ _ _ _ z => z)⟩
  · by_cases cb : c = b
    · subst cb
      rw [kb] at z
      cases z
      refine ⟨ds', l', ownOf_of f1 ?_, List.getElem?_set_self hb, r.mono em⟩
      rw [dget_putO, if_pos rfl, e2]
    · obtain ⟨d', o', o1, o2, o3⟩ := I.nss c i g w z
      obtain ⟨ps', l1, p1, p2, p3⟩ := ownOf_fld o1
      cases p3
      refine ⟨_, o', ?_, by rw [hs c cb]; exact o2, o3.mono em⟩
      by_cases v : i = n ∧ g = f
      · obtain ⟨rfl, rfl⟩ := v
        rw [f0] at p1
        cases p1
        refine ownOf_of f1 ?_
        rw [dget_putO, if_neg]
        · exact p2
        · rintro rfl
          exact cb (I.injn _ _ _ _ _ z kb)
      · exact ownOf_of (fo v p1) p2
/-- a new list in a field's dict -/
theorem Inv.putNst {n b c0 f : Nat} {y : Ky} {oj : Oj} {ps : List (Ky × D)} {lv : List (Va × Va)} {ds : List D} {l' : List Va} (I : Inv m k h O) (kb : k b = .fld n f) (ns : m.ns f = true) (e1 : O[n]? = some oj) (e0 : lkF f oj.fs = some (.dct ps)) (e2 : dget ps y = none) (eb : h[b]? = some (.dct lv)) (q : RepQ k h n f ps lv) (kc : k c0 = .held) (ec : h[c0]? = some (.lst l')) (r : Reps k h ds l') :
    Inv m (k.put c0 (.nst n f y)) (h.set b (.dct (Dl.dput lv y.va (.ref c0)))) (O.set n ⟨oj.c, putF f (.dct (dput ps y (.own ds))) oj.fs⟩) ∧ Em k h (k.put c0 (.nst n f y)) (h.set b (.dct (Dl.dput lv y.va (.ref c0)))) := by
  have bc : b ≠ c0 := by rintro rfl; rw [kb] at kc; cases kc
  have hs : ∀ c, c ≠ b → (h.set b (.dct (Dl.dput lv y.va (.ref c0))))[c]? = h[c]? := fun c z => List.getElem?_set_ne (Ne.symm z)
  have hb : b < h.length := I.lt b (by rw [kb]; exact fun z => by cases z)
  have nn : ∀ {c : Nat} {x : Kd}, k c = x → x ≠ .held → k.put c0 (.nst n f y) c = x := fun {c x} w w2 => by
    rw [put_ne]
    · exact w
    · rintro rfl
      exact w2 (w.symm.trans kc)
  have bk : ∀ {c : Nat} {x : Kd}, k.put c0 (.nst n f y) c = x → x ≠ .nst n f y → k c = x ∧ c ≠ c0 := fun {c x} w w2 => by
    by_cases z : c = c0
    · subst z
      rw [put_same] at w
      exact absurd w.symm w2
    · rw [put_ne z] at w
      exact ⟨w, z⟩
  have em : Em k h (k.put c0 (.nst n f y)) (h.set b (.dct (Dl.dput lv y.va (.ref c0)))) := ⟨fun c z => ⟨nn z (fun q => by cases q), hs c (by rintro rfl; rw [kb] at z; cases z)⟩, fun c i z => nn z (fun q => by cases q), fun c i g z => nn z (fun q => by cases q)⟩
  have nsm : ∀ c i g w, k c = .nst i g w → k.put c0 (.nst n f y) c = .nst i g w := fun c i g w z => nn z (fun q => by cases q)
  have f0 : fldOf O n f = some (.dct ps) := by unfold fldOf; rw [e1]; exact e0
  have fo : ∀ {i g : Nat} {d' : D}, ¬ (i = n ∧ g = f) → fldOf O i g = some d' → fldOf (O.set n ⟨oj.c, putF f (.dct (dput ps y (.own ds))) oj.fs⟩) i g = some d' := fun {i g d'} w z => by
    rw [fldOf_set (fs := oj.fs) e1, if_neg w]
    exact z
  have f1 : fldOf (O.set n ⟨oj.c, putF f (.dct (dput ps y (.own ds))) oj.fs⟩) n f = some (.dct (dput ps y (.own ds))) := by rw [fldOf_set (fs := oj.fs) e1, if_pos ⟨rfl, rfl⟩]
  have none1 : ∀ {c : Nat}, k c ≠ .nst n f y := fun {c} z => by
    obtain ⟨d', o', o1, _⟩ := I.nss c n f y z
    obtain ⟨ps', l1, p1, p2, _⟩ := ownOf_fld o1
    rw [f0] at p1
    cases p1
    rw [e2] at p2
    cases p2
  have inf : ∀ {c i g : Nat} {w : Ky}, k.put c0 (.nst n f y) c = .nst i g w → (c = c0 ∧ i = n ∧ g = f ∧ w = y) ∨ (k c = .nst i g w ∧ c ≠ c0) := fun {c i g w} z => by
    by_cases v : c = c0
    · subst v
      rw [put_same] at z
      cases z
      exact .inl ⟨rfl, rfl, rfl, rfl⟩
    · rw [put_ne v] at z
      exact .inr ⟨z, v⟩
  refine ⟨⟨fun c z => ?_, fun c c' i p q => I.injo c c' i (bk p (fun q => by cases q)).1 (bk q (fun q => by cases q)).1, fun c c' i g p q => I.injf c c' i g (bk p (fun q => by cases q)).1 (bk q (fun q => by cases q)).1, fun c c' i g w p q => ?_, fun c i g z => I.mf c i g (bk z (fun q => by cases q)).1, fun c i g w z => ?_, fun c i z => ?_, fun c i g z => ?_, fun c i g w z => ?_⟩, em⟩
  · rw [List.length_set]
    by_cases w : c = c0
    · subst w; exact I.lt c (held_ne kc)
    · rw [put_ne w] at z; exact I.lt c z
  · rcases inf p with ⟨rfl, rfl, rfl, rfl⟩ | ⟨p1, p2⟩
    · rcases inf q with ⟨rfl, _, _, _⟩ | ⟨q1, q2⟩
      · rfl
      · exact absurd q1 none1
    · rcases inf q with ⟨rfl, rfl, rfl, rfl⟩ | ⟨q1, q2⟩
      · exact absurd p1 none1
      · exact I.injn _ _ _ _ _ p1 q1
  · rcases inf z with ⟨rfl, rfl, rfl, rfl⟩ | ⟨z1, _⟩
    · exact ⟨ns, I.mf _ _ _ kb⟩
    · exact I.mn _ _ _ _ z1
  · obtain ⟨z1, z2⟩ := bk z (fun q => by cases q)
    have cb : c ≠ b := by rintro rfl; rw [kb] at z1; cases z1
    obtain ⟨oj', l', o1, o2, o3⟩ := I.obs c i z1
    by_cases ci : i = n
    · subst ci
      rw [e1] at o1
      cases o1
      exact ⟨_, l', by rw [getSet e1, if_pos rfl], by rw [hs c cb]; exact o2, Flds.repl (I.mf _ _ _ kb) e0 (o3.mono em)⟩
    · exact ⟨oj', l', by rw [getSet e1, if_neg ci]; exact o1, by rw [hs c cb]; exact o2, o3.mono em⟩
  · obtain ⟨z1, z2⟩ := bk z (fun q => by cases q)
    by_cases cb : c = b
    · subst cb
      rw [kb] at z1
      cases z1
      refine ⟨_, _, f1, List.getElem?_set_self hb, ?_⟩
      exact RepG.put (F := RepO _ _ n f) (RepQ.mono em nsm q) (show RepO _ _ n f y (.own ds) (.ref c0) from ⟨c0, rfl, put_same⟩)
    · obtain ⟨d', o', o1, o2, o3⟩ := I.fls c i g z1
      exact ⟨d', o', fo (by rintro ⟨rfl, rfl⟩; exact cb (I.injf _ _ _ _ z1 kb)) o1, by rw [hs c cb]; exact o2, o3.mono em nsm⟩
  · rcases inf z with ⟨rfl, rfl, rfl, rfl⟩ | ⟨z1, z2⟩
    · refine ⟨ds, l', ownOf_of f1 ?_, by rw [hs _ (Ne.symm bc)]; exact ec, r.mono em⟩
      rw [dget_put, if_pos rfl]
    · have cb : c ≠ b := by rintro rfl; rw [kb] at z1; cases z1
      obtain ⟨d', o', o1, o2, o3⟩ := I.nss c i g w z1
      obtain ⟨ps', l1, p1, p2, p3⟩ := ownOf_fld o1
      cases p3
      refine ⟨_, o', ?_, by rw [hs c cb]; exact o2, o3.mono em⟩
      by_cases v : i = n ∧ g = f
      · obtain ⟨rfl, rfl⟩ := v
        rw [f0] at p1
        cases p1
        refine ownOf_of f1 ?_
        rw [dget_put, if_neg]
        · exact p2
        · rintro rfl
          exact none1 z1
      · exact ownOf_of (fo v p1) p2
/-- a local's own changed in place -/
theorem Inv.putOwn {b : Nat} {o : Ob} (I : Inv m k h O) (kb : k b = .held) : Inv m k (h.set b o) O ∧ Em k h k (h.set b o) := by
  have em : Em k h k (h.set b o) := Em.set (by rw [kb]; exact fun z => by cases z)
  refine ⟨I.keep (fun c z => by rw [List.length_set]; exact I.lt c z) (fun c z => ⟨rfl, List.getElem?_set_ne ?_⟩) em (fun _ _ _ _ z => z), em⟩
  rintro rfl
  rw [kb] at z
  cases z
end
end Pu
set_option Elab.async false
set_option linter.all false
set_option maxRecDepth 100000
set_option maxHeartbeats 4000000
/-! Statements: the tree reading stands for the store's. -/
namespace Pu
open PySem (Str sizeLine PyData)
open Dl (Va Ob Store Bop Cop Bi Bm Tyk Tg Ex Sm)
def Own (s : Slots) (sv : Dl.Slots) (n : Nat) : Prop := ∃ i, OwnAt s sv i n
open Classical in
/-- cells that are not the slots' own -/
noncomputable def kb (k : Gk) (s : Slots) (sv : Dl.Slots) : Gk := fun n => if Own s sv n then .no else k n
section
variable {m : Mdl} {k k' k'' k0 k1 k2 : Gk} {h h' h'' h1 h2 : Store} {O : Os} {C : Cfg} {Cv : Dl.Cfg} {s s1 : Slots} {sv sv1 : Dl.Slots}
theorem kb_own {n : Nat} (o : Own s sv n) : kb k s sv n = .no := if_pos o
theorem kb_not {n : Nat} (o : ¬ Own s sv n) : kb k s sv n = k n := if_neg o
theorem kb_no {n : Nat} (e : k n = .no) : kb k s sv n = .no := by
  unfold kb
  split
  · rfl
  · exact e
theorem kb_ne {n : Nat} (e : kb k s sv n ≠ .no) : ¬ Own s sv n ∧ k n ≠ .no ∧ kb k s sv n = k n := by
  by_cases o : Own s sv n
  · exact absurd (kb_own o) e
  · rw [kb_not o] at e
    exact ⟨o, e, kb_not o⟩
theorem Ev.kb (e : Ev k h k' h') : Ev (kb k s sv) h k' h' :=
  ⟨fun n z => by obtain ⟨a, b, c⟩ := kb_ne z; rw [c, e.kd n b], fun n z => by
    have z' : Pu.kb k s sv n ≠ .no := by rcases z with z | z <;> (rw [z]; exact fun w => by cases w)
    obtain ⟨a, b, c⟩ := kb_ne z'
    rw [c] at z
    exact e.st n z⟩
/-- a step that leaves the slots -/
theorem Ev.kbb (e : Ev k h k' h') : Ev (Pu.kb k s sv) h (Pu.kb k' s sv) h' :=
  ⟨fun n z => by obtain ⟨a, b, c⟩ := kb_ne z; rw [kb_not a, e.kd n b, c], (e.kb (s := s) (sv := sv)).st⟩
theorem Ev.kb2 (e : Ev (Pu.kb k s sv) h k' h') (o : ∀ n, Own s1 sv1 n → Pu.kb k s sv n = .no) : Ev (Pu.kb k s sv) h (Pu.kb k' s1 sv1) h' :=
  ⟨fun n z => by
    have : ¬ Own s1 sv1 n := fun w => z (o n w)
    rw [kb_not this, e.kd n z], e.st⟩
theorem SR.ownHeld (S : SR k h s sv) {n : Nat} (o : Own s sv n) : k n = .held := by
  obtain ⟨i, a⟩ := o
  exact S.held a.hold
theorem Em.kb (S : SR k h s sv) (e : Ev (Pu.kb k s sv) h k' h') : Em k h k' h' := by
  have q : ∀ {n : Nat} {x : Kd}, k n = x → x ≠ .held → Pu.kb k s sv n = x := fun {n x} a b => by
    rw [kb_not]
    · exact a
    · intro o
      exact b (a.symm.trans (S.ownHeld o))
  refine ⟨fun n z => ?_, fun n i z => ?_, fun n i f z => ?_⟩
  · exact e.em.frz n (q z fun w => by cases w)
  · exact e.em.obj n i (q z fun w => by cases w)
  · exact e.em.fld n i f (q z fun w => by cases w)
theorem nst_kb (S : SR k h s sv) (e : Ev (Pu.kb k s sv) h k' h') : ∀ n i f y, k n = .nst i f y → k' n = .nst i f y := fun n i f y z => by
  have : Pu.kb k s sv n = .nst i f y := by
    rw [kb_not]
    · exact z
    · intro o
      have := S.ownHeld o
      rw [z] at this
      cases this
  exact e.nst n i f y this
/-- what a statement's end is worth -/
def SimS (m : Mdl) (k : Gk) (h : Store) (s : Slots) (sv : Dl.Slots) (r : Rs) (rv : Dl.Rs) : Prop := match r with
  | .nx s' O => ∃ sv' h' k', rv = .nx sv' h' ∧ Ev (kb k s sv) h k' h' ∧ Inv m k' h' O ∧ SR k' h' s' sv' ∧ ∀ n, Own s' sv' n → kb k s sv n = .no
  | .rt d fl O => ∃ v h' k', rv = .rt v h' ∧ Ev (kb k s sv) h k' h' ∧ Inv m k' h' O ∧ RF (kb k s sv) k' h' d fl v ∧ fl.free = true
  | .exc c fs s' O => ∃ vs sv' h' k', rv = .exc c vs sv' h' ∧ Ev (kb k s sv) h k' h' ∧ Inv m k' h' O ∧ SR k' h' s' sv' ∧ (∀ n, Own s' sv' n → kb k s sv n = .no) ∧ Reps k' h' fs vs
  | .bad => True
theorem SimS.weak {r : Rs} {rv : Dl.Rs} (e : Ev (kb k s sv) h k1 h1) (o : ∀ n, Own s1 sv1 n → kb k s sv n = .no) (q : SimS m k1 h1 s1 sv1 r rv) : SimS m k h s sv r rv := by
  have e1 := e.kb2 o
  cases r with
  | nx s' O =>
    obtain ⟨sv', h', k', q1, q2, q3, q4, q5⟩ := q
    exact ⟨sv', h', k', q1, e1.trans q2, q3, q4, fun n w => e1.no (q5 n w)⟩
  | rt d fl O =>
    obtain ⟨v, h', k', q1, q2, q3, q4, q5⟩ := q
    exact ⟨v, h', k', q1, e1.trans q2, q3, q4.weak e1, q5⟩
  | exc c fs s' O =>
    obtain ⟨vs, sv', h', k', q1, q2, q3, q4, q5, q6⟩ := q
    exact ⟨vs, sv', h', k', q1, e1.trans q2, q3, q4, fun n w => e1.no (q5 n w), q6⟩
  | bad => trivial
/-- behind an expression -/
theorem SimS.weakE {r : Rs} {rv : Dl.Rs} (e : Ev k h k1 h1) (q : SimS m k1 h1 s sv r rv) : SimS m k h s sv r rv := q.weak e.kb fun _ w => kb_own w
theorem SimS.seq {r : Rs} {rv : Dl.Rs} {f : Slots → Os → Rs} {g : Dl.Slots → Store → Dl.Rs} (q : SimS m k h s sv r rv) (w : ∀ s' O sv' h' k', Ev (kb k s sv) h k' h' → Inv m k' h' O → SR k' h' s' sv' → SimS m k' h' s' sv' (f s' O) (g sv' h')) : SimS m k h s sv (r.seq f) (rv.seq g) := by
  cases r with
  | nx s' O =>
    obtain ⟨sv', h', k', rfl, q2, q3, q4, q5⟩ := q
    exact (w s' O sv' h' k' q2 q3 q4).weak q2 q5
  | rt d fl O =>
    obtain ⟨v, h', k', rfl, q⟩ := q
    exact ⟨v, h', k', rfl, q⟩
  | exc c fs s' O =>
    obtain ⟨vs, sv', h', k', rfl, q⟩ := q
    exact ⟨vs, sv', h', k', rfl, q⟩
  | bad => trivial
theorem SimS.seq' {r : Rs} {rv : Dl.Rs} {f : Slots → Os → Rs} {g : Dl.Slots → Store → Dl.Rs} (q : SimS m k h s sv r rv) (w : ∀ s' O sv' h' k', Ev (kb k s sv) h k' h' → (∀ n, Own s' sv' n → Pu.kb k s sv n = .no) → Inv m k' h' O → SR k' h' s' sv' → SimS m k' h' s' sv' (f s' O) (g sv' h')) : SimS m k h s sv (r.seq f) (rv.seq g) := by
  cases r with
  | nx s' O =>
    obtain ⟨sv', h', k', rfl, q2, q3, q4, q5⟩ := q
    exact (w s' O sv' h' k' q2 q5 q3 q4).weak q2 q5
  | rt d fl O =>
    obtain ⟨v, h', k', rfl, q⟩ := q
    exact ⟨v, h', k', rfl, q⟩
  | exc c fs s' O =>
    obtain ⟨vs, sv', h', k', rfl, q⟩ := q
    exact ⟨vs, sv', h', k', rfl, q⟩
  | bad => trivial
theorem SimS.thn {r : R} {rv : Dl.R} {f : D → Fl → Os → Rs} {g : Va → Store → Dl.Rs} (S : SR k h s sv) (q : SimR m k h r rv) (w : ∀ d fl O v h' k', Ev k h k' h' → Inv m k' h' O → RF k k' h' d fl v → SimS m k h s sv (f d fl O) (g v h')) : SimS m k h s sv (r.thn s f) (rv.thn sv g) := by
  cases r with
  | ok d fl O => obtain ⟨v, h2, k2, rfl, e2, e3, e4⟩ := q; exact w d fl O v h2 k2 e2 e3 e4
  | exc c fs O => obtain ⟨v, h2, k2, rfl, e2, e3, e4⟩ := q; exact ⟨v, sv, h2, k2, rfl, e2.kb, e3, S.mono e2, fun n w => kb_own w, e4⟩
  | bad => trivial
theorem SimS.thnL {r : Rl} {rv : Dl.Rl} {f : List (D × Fl) → Os → Rs} {g : List Va → Store → Dl.Rs} (S : SR k h s sv) (q : SimL m k h r rv) (w : ∀ l O v h' k', Ev k h k' h' → Inv m k' h' O → RFs k' h' l v → SimS m k h s sv (f l O) (g v h')) : SimS m k h s sv (r.thn s f) (rv.thn sv g) := by
  cases r with
  | ok l O => obtain ⟨v, h2, k2, rfl, e2, e3, e4⟩ := q; exact w l O v h2 k2 e2 e3 e4
  | exc c fs O => obtain ⟨v, h2, k2, rfl, e2, e3, e4⟩ := q; exact ⟨v, sv, h2, k2, rfl, e2.kb, e3, S.mono e2, fun n w => kb_own w, e4⟩
  | bad => trivial
theorem SimS.same (I : Inv m k h O) (S : SR k h s sv) : SimS m k h s sv (.nx s O) (.nx sv h) := ⟨sv, h, k, rfl, Ev.refl.kb, I, S, fun n w => kb_own w⟩
/-- a value stored -/
theorem asnF_ok (t : Tg) {d : D} {fl : Fl} {v : Va} {s' : Slots} (S : SR k h s sv) (r : RF k0 k h d fl v) (hb : ∀ j n, HoldAt s sv j n → k0 n ≠ .no) (e : asn t d fl s = some s') : ∃ sv', Dl.asn t v sv = some sv' ∧ SR k h s' sv' ∧ ∀ i n, OwnAt s' sv' i n → OwnAt s sv i n ∨ k0 n = .no := by
  cases t with
  | nm i =>
    unfold asn at e
    cases fl with
    | shr => cases e; exact ⟨_, rfl, S.set_sh i r, fun j n a => .inl (own_set (fun d => fun z => by cases z) a)⟩
    | fr =>
      cases e
      obtain ⟨n, o, rfl, z0, z, e1, r⟩ := r
      refine ⟨_, rfl, S.set_ow z e1 r (fun j _ w => hb j n w z0), fun j n' a => ?_⟩
      obtain ⟨⟨d', q⟩, q2⟩ := a
      by_cases c : i = j
      · subst c
        rw [List.getElem?_set_self (by have := (List.getElem?_eq_some_iff.mp q2).1; simpa using this)] at q2
        cases q2
        exact .inr z0
      · rw [List.getElem?_set_ne c] at q q2
        exact .inl ⟨⟨d', q⟩, q2⟩
    | _ => cases e
  | tup ts =>
    cases d with
    | tup ds =>
      obtain ⟨l, rfl, r1⟩ := (r.rep rfl).vw.tup
      unfold asn at e
      obtain ⟨sv', e1, e2, e3⟩ := asns_ok ts S r1 e
      exact ⟨sv', e1, e2, fun i n a => .inl (e3 i n a)⟩
    | _ => unfold asn at e; cases e
theorem frz1S_ok (I : Inv m k h O) (S : SR k h s sv) (i : Nat) : ∃ k', Inv m k' h O ∧ Ev (kb k s sv) h k' h ∧ SR k' h (frz1S s i) sv ∧ (∀ n, Own (frz1S s i) sv n → kb k s sv n = .no) := by
  unfold frz1S
  split
  · rename_i d hd
    obtain ⟨n, o, e1, e2, e3, e4⟩ := S.at_ i _ hd
    have ow : Own s sv n := ⟨i, ⟨d, hd⟩, e1⟩
    obtain ⟨I1, ev, em⟩ := I.freeze (k0 := kb k s sv) Ev.refl.kb e2 (kb_own ow)
    have S1 : SR (k.put n .frz) h (s.set i (.sh d)) sv := by
      have hsv : sv = sv.set i (some (.ref n)) := (Dl.set_self e1).symm
      refine ⟨by simp [S.len], fun j x hx => ?_, fun a b c p q => ?_⟩
      · rcases getS hx with ⟨rfl, rfl⟩ | ⟨c, z⟩
        · exact ⟨_, e1, (e4.mono em).frz put_same e3⟩
        · have a := S.at_ j x z
          cases x with
          | no => trivial
          | sh d' => obtain ⟨v, f1, f2⟩ := a; exact ⟨v, f1, f2.mono em⟩
          | ow d' =>
            refine Held.mono em (fun n' w1 w2 => ⟨?_, rfl⟩) a
            rw [put_ne]
            · exact w2
            · rintro rfl
              exact c (S.dis i j n' ⟨⟨d, hd⟩, e1⟩ ⟨⟨d', .inl z⟩, w1⟩)
          | bo d' =>
            refine Held.mono em (fun n' w1 w2 => ⟨?_, rfl⟩) a
            rw [put_ne]
            · exact w2
            · rintro rfl
              exact c (S.dis i j n' ⟨⟨d, hd⟩, e1⟩ ⟨⟨d', .inr z⟩, w1⟩)
          | bx i f => obtain ⟨n', f1, f2⟩ := a; exact ⟨n', f1, em.fld _ _ _ f2⟩
      · rw [hsv] at p q
        exact S.dis a b c (own_set (fun _ z => by cases z) p) (hold_set (fun _ => ⟨fun z => (by cases z), fun z => (by cases z)⟩) q)
    refine ⟨_, I1, ev, S1, fun n' w => ?_⟩
    obtain ⟨j, a⟩ := w
    have hsv : sv = sv.set i (some (.ref n)) := (Dl.set_self e1).symm
    rw [hsv] at a
    exact kb_own ⟨j, own_set (fun _ z => by cases z) a⟩
  · exact ⟨k, I, Ev.refl.kb, S, fun n w => kb_own w⟩
theorem frzS_ok : ∀ (l : List Nat) {k : Gk} {s : Slots}, Inv m k h O → SR k h s sv → SimS m k h s sv (.nx (frzS s l) O) (.nx sv h)
  | [], k, s, I, S => .same I S
  | i :: l, k, s, I, S => by
    obtain ⟨k1, I1, e1, S1, o1⟩ := frz1S_ok I S i
    exact (frzS_ok l I1 S1).weak e1 o1
end
end Pu
set_option Elab.async false
set_option linter.all false
set_option maxRecDepth 100000
set_option maxHeartbeats 4000000
/-! Statements in place, loops. -/
namespace Pu
open PySem (Str sizeLine PyData)
open Dl (Va Ob Store Bop Cop Bi Bm Tyk Tg Ex Sm)
section
variable {m : Mdl} {k k' k'' k0 k1 k2 : Gk} {h h' h'' h0 h1 h2 : Store} {O : Os} {C : Cfg} {Cv : Dl.Cfg} {s s1 : Slots} {sv sv1 : Dl.Slots}
theorem SR.upd (S : SR k h s sv) (em : Em k h k h') (q : ∀ j n, HoldAt s sv j n → h'[n]? = h[n]?) : SR k h' s sv := by
  refine ⟨S.len, fun i x hx => ?_, S.dis⟩
  have a := S.at_ i x hx
  cases x with
  | no => trivial
  | sh d => obtain ⟨v, f1, f2⟩ := a; exact ⟨v, f1, f2.mono em⟩
  | ow d => exact Held.mono em (fun n w1 w2 => ⟨w2, q i n ⟨⟨d, .inl hx⟩, w1⟩⟩) a
  | bo d => exact Held.mono em (fun n w1 w2 => ⟨w2, q i n ⟨⟨d, .inr hx⟩, w1⟩⟩) a
  | bx i f => obtain ⟨n', f1, f2⟩ := a; exact ⟨n', f1, em.fld _ _ _ f2⟩
theorem RCQ.toC {d : D} {o : Ob} {i f : Nat} (I : Inv m k h O) (ns : m.ns f = false) (r : RCQ k h i f d o) : RC k h d o := by
  have key : ∀ {ps : List (Ky × D)} {l : List (Va × Va)}, RepQ k h i f ps l → RepP k h ps l := fun {ps l} q => by
    refine (RepG.imp (fun y d v a => ?_) q).toP
    unfold RepO at a
    split at a
    · obtain ⟨mm, _, z⟩ := a
      have := (I.mn _ _ _ _ z).1
      rw [ns] at this
      cases this
    · exact a
  unfold RCQ at r
  unfold RC
  split at r
  · exact r
  · exact key r
  · exact r.elim
theorem putAt_ok {o : Ex} {x : D} {fx : Fl} {v : Va} {u : D → Option D} {rv : Va → Dl.Rs} (R : CR m C Cv) (I : Inv m k h O) (S0 : SR k0 h0 s sv) (e : Ev k0 h0 k h) (r : RF k0 k h x fx v) (ho : fx = .ho → ∀ j, o = .v j → s[j]? = some (.ow x) ∧ sv[j]? = some (some v))
    (hu : ∀ n d d' ob, v = .ref n → h[n]? = some ob → RC k h d ob → u d = some d' → ∃ ob', rv v = .nx sv (h.set n ob') ∧ RC k h d' ob') : SimS m k0 h0 s sv (putAt C s O o x fx u) (rv v) := by
  have S : SR k h s sv := S0.mono e
  have e1 : Ev (kb k0 s sv) h0 k h := e.kb
  -- one cell that is neither frozen nor held by others
  have evS : ∀ {n : Nat} {ob : Ob}, (kb k0 s sv n ≠ .frz) → (kb k0 s sv n ≠ .held) → Ev (kb k0 s sv) h0 k (h.set n ob) := fun {n ob} z1 z2 => ⟨e1.kd, fun a w => by
    rw [List.getElem?_set_ne]
    · exact e1.st a w
    · rintro rfl
      rcases w with w | w
      · exact z1 w
      · exact z2 w⟩
  cases fx with
  | shr => trivial
  | hb => trivial
  | hf i f =>
    obtain ⟨rfl, n, rfl, kn⟩ := r
    unfold putAt
    dsimp only
    by_cases c : C.nst f = true
    · rw [if_pos c]; trivial
    · rw [if_neg c]
      cases q1 : O[i]? with
      | none => trivial
      | some oj =>
        dsimp only
        cases q2 : lkF f oj.fs with
        | none => trivial
        | some d =>
          dsimp only
          cases q3 : u d with
          | none => trivial
          | some d' =>
            dsimp only
            have ns : m.ns f = false := by rw [← R.ns]; simpa using c
            obtain ⟨d2, ob, f1, f2, f3⟩ := I.fls n i f kn
            unfold fldOf at f1
            rw [q1] at f1
            rw [show (some oj).bind (fun o => lkF f o.fs) = lkF f oj.fs from rfl, q2] at f1
            cases f1
            obtain ⟨ob', g1, g2⟩ := hu n d d' ob rfl f2 (f3.toC I ns) q3
            obtain ⟨I1, em⟩ := I.putFld (o := ob') (d := d') kn q1 q2 ns g2.toQ
            have nk : kb k0 s sv n = k n ∨ kb k0 s sv n = .no := by
              by_cases w : kb k0 s sv n = .no
              · exact .inr w
              · exact .inl (e1.kd n w).symm
            refine ⟨sv, _, k, g1, evS ?_ ?_, I1, S.upd em (fun j n' a => ?_), fun n' w => kb_own w⟩
            · rcases nk with w | w <;> (rw [w]; first | (rw [kn]; exact fun z => by cases z) | exact fun z => by cases z)
            · rcases nk with w | w <;> (rw [w]; first | (rw [kn]; exact fun z => by cases z) | exact fun z => by cases z)
            · rw [List.getElem?_set_ne]
              rintro rfl
              have := S.held a
              rw [kn] at this
              cases this
  | hk i f y =>
    obtain ⟨rfl, n, rfl, kn⟩ := r
    unfold putAt
    dsimp only
    cases q1 : O[i]? with
    | none => trivial
    | some oj =>
      dsimp only
      cases q2 : lkF f oj.fs with
      | none => trivial
      | some d =>
        cases d with
        | dct ps =>
          dsimp only
          cases q3 : dget ps y with
          | none => trivial
          | some d2 =>
            cases d2 with
            | own l =>
              dsimp only
              cases q4 : u (.lst l) with
              | none => trivial
              | some d3 =>
                cases d3 with
                | lst l' =>
                  dsimp only
                  obtain ⟨ds, lv, f1, f2, f3⟩ := I.nss n i f y kn
                  obtain ⟨ps', l1, p1, p2, p3⟩ := ownOf_fld f1
                  unfold fldOf at p1
                  rw [q1] at p1
                  rw [show (some oj).bind (fun o => lkF f o.fs) = lkF f oj.fs from rfl, q2] at p1
                  cases p1
                  rw [q3] at p2
                  cases p2
                  cases p3
                  obtain ⟨ob', g1, g2⟩ := hu n (.lst l) (.lst l') (.lst lv) rfl f2 f3 q4
                  cases ob' with
                  | lst lv' =>
                    obtain ⟨I1, em⟩ := I.putHk kn q1 q2 q3 g2
                    have nk : kb k0 s sv n = k n ∨ kb k0 s sv n = .no := by
                      by_cases w : kb k0 s sv n = .no
                      · exact .inr w
                      · exact .inl (e1.kd n w).symm
                    refine ⟨sv, _, k, g1, evS ?_ ?_, I1, S.upd em (fun j n' a => ?_), fun n' w => kb_own w⟩
                    · rcases nk with w | w <;> (rw [w]; first | (rw [kn]; exact fun z => by cases z) | exact fun z => by cases z)
                    · rcases nk with w | w <;> (rw [w]; first | (rw [kn]; exact fun z => by cases z) | exact fun z => by cases z)
                    · rw [List.getElem?_set_ne]
                      rintro rfl
                      have := S.held a
                      rw [kn] at this
                      cases this
                  | _ => exact g2.elim
                | _ => trivial
            | _ => trivial
        | _ => trivial
  | fr =>
    obtain ⟨n, ob, rfl, z0, kn, f2, f3⟩ := r
    unfold putAt
    dsimp only
    cases q3 : u x with
    | none => trivial
    | some d' =>
      obtain ⟨ob', g1, g2⟩ := hu n x d' ob rfl f2 f3 q3
      obtain ⟨I1, em⟩ := I.putOwn (o := ob') kn
      refine ⟨sv, _, k, g1, evS ?_ ?_, I1, S.upd em (fun j n' a => ?_), fun n' w => kb_own w⟩
      · rw [kb_no z0]; exact fun z => by cases z
      · rw [kb_no z0]; exact fun z => by cases z
      · rw [List.getElem?_set_ne]
        rintro rfl
        have := S0.held a
        rw [z0] at this
        cases this
  | ho =>
    obtain ⟨n, ob, rfl, kn, f2, f3⟩ := r
    unfold putAt
    dsimp only
    cases o with
    | v j =>
      obtain ⟨h1, h2⟩ := ho rfl j rfl
      dsimp only
      cases q3 : u x with
      | none => trivial
      | some d' =>
        obtain ⟨ob', g1, g2⟩ := hu n x d' ob rfl f2 f3 q3
        obtain ⟨I1, em⟩ := I.putOwn (o := ob') kn
        have ow : OwnAt s sv j n := ⟨⟨x, h1⟩, h2⟩
        have hb : n < h.length := I.lt n (held_ne kn)
        have hsv : sv = sv.set j (some (.ref n)) := (Dl.set_self h2).symm
        have same : ∀ i n', HoldAt (s.set j (.ow d')) sv i n' → HoldAt s sv i n' := fun i n' w => by
          obtain ⟨⟨d1, e⟩, e2⟩ := w
          by_cases c : j = i
          · subst c
            exact ⟨⟨x, .inl h1⟩, e2⟩
          · rw [List.getElem?_set_ne c] at e
            exact ⟨⟨d1, e⟩, e2⟩
        have sameO : ∀ i n', OwnAt (s.set j (.ow d')) sv i n' → OwnAt s sv i n' := fun i n' w => by
          obtain ⟨⟨d1, e⟩, e2⟩ := w
          by_cases c : j = i
          · subst c
            exact ⟨⟨x, h1⟩, e2⟩
          · rw [List.getElem?_set_ne c] at e
            exact ⟨⟨d1, e⟩, e2⟩
        refine ⟨sv, _, k, g1, evS ?_ ?_, I1, ⟨by simp [S.len], fun i y hy => ?_, fun a b c p q => S.dis a b c (sameO a c p) (same b c q)⟩, fun n' w => ?_⟩
        · rw [kb_own ⟨j, ow⟩]; exact fun z => by cases z
        · rw [kb_own ⟨j, ow⟩]; exact fun z => by cases z
        · rcases getS hy with ⟨rfl, rfl⟩ | ⟨c, z⟩
          · exact ⟨n, ob', h2, kn, List.getElem?_set_self hb, g2.mono em⟩
          · have a := S.at_ i y z
            cases y with
            | no => trivial
            | sh d => obtain ⟨v, f1, f2⟩ := a; exact ⟨v, f1, f2.mono em⟩
            | ow d => exact Held.mono em (fun n' w1 w2 => ⟨w2, List.getElem?_set_ne (by rintro rfl; exact c (S.dis _ _ _ ow ⟨⟨d, .inl z⟩, w1⟩))⟩) a
            | bo d => exact Held.mono em (fun n' w1 w2 => ⟨w2, List.getElem?_set_ne (by rintro rfl; exact c (S.dis _ _ _ ow ⟨⟨d, .inr z⟩, w1⟩))⟩) a
            | bx i f => obtain ⟨n', f1, f2⟩ := a; exact ⟨n', f1, em.fld _ _ _ f2⟩
        · obtain ⟨i, w⟩ := w
          exact kb_own ⟨i, sameO i n' w⟩
    | _ => trivial
/-- a name read -/
theorem ev_v {j : Nat} {x : D} {O' : Os} {v : Va} (e : evE C (.v j) s O = .ok x .ho O') (ev : Dl.evE Cv (.v j) sv h = .ok v h') : s[j]? = some (.ow x) ∧ sv[j]? = some (some v) := by
  unfold evE at e
  unfold Dl.evE at ev
  constructor
  · split at e <;> first | (cases e; done) | skip
    cases e
    assumption
  · split at ev
    · cases ev
      assumption
    · cases ev
/-- a loop -/
theorem goS_ok {chk : Os → Bool} {cv : Store → Bool} {f : D → Slots → Os → Rs} {g : Va → Dl.Slots → Store → Dl.Rs} {kB : Gk} {hB : Store} {sB : Slots} {svB : Dl.Slots}
    (hc : ∀ k h O, Ev (kb kB sB svB) hB k h → Inv m k h O → chk O = true → cv h = true)
    (hf : ∀ x v k h O s sv, Ev (kb kB sB svB) hB k h → Inv m k h O → SR k h s sv → Rep k h x v → SimS m k h s sv (f x s O) (g v sv h)) :
    ∀ (ds : List D) {l : List Va} {k : Gk} {h : Store} {O : Os} {s : Slots} {sv : Dl.Slots}, Ev (kb kB sB svB) hB k h → (∀ n, Own s sv n → kb kB sB svB n = .no) → Inv m k h O → SR k h s sv → Reps k h ds l →
    SimS m k h s sv (goS chk f ds s O) (Dl.goS cv g l sv h)
  | [], l, k, h, O, s, sv, e, o, I, S, rl => by
    cases rl
    unfold goS
    by_cases c : chk O = true
    · rw [if_pos c]
      unfold Dl.goS
      rw [if_pos (hc _ _ _ e I c)]
      exact .same I S
    · rw [if_neg c]; trivial
  | x :: xs, l, k, h, O, s, sv, e, o, I, S, rl => by
    cases rl with
    | cons a rl =>
      unfold goS
      by_cases c : chk O = true
      · rw [if_pos c]
        unfold Dl.goS
        rw [if_pos (hc _ _ _ e I c)]
        refine (hf _ _ _ _ _ _ _ e I S a).seq' fun s' O' sv' h' k' e1 o1 I1 S1 => ?_
        refine goS_ok hc hf xs ((e.kb2 o).trans e1) (fun n w => (e.kb2 o).no (o1 n w)) I1 S1 (rl.mono (Em.kb S e1))
      · rw [if_neg c]; trivial
end
end Pu
set_option Elab.async false
set_option linter.all false
set_option maxRecDepth 100000
set_option maxHeartbeats 4000000
/-! Every statement, every def: the tree reading stands for the store's. -/
namespace Pu
open PySem (Str sizeLine PyData)
open Dl (Va Ob Store Bop Cop Bi Bm Tyk Tg Ex Sm)
section
variable {m : Mdl} {k k' k'' k0 k1 k2 : Gk} {h h' h'' h0 h1 h2 : Store} {O : Os} {C : Cfg} {Cv : Dl.Cfg} {s s1 : Slots} {sv sv1 : Dl.Slots}
theorem bind_thn {r : Dl.R} {f : Va → Store → Dl.R} {sv : Dl.Slots} {g : Va → Store → Dl.Rs} : (r.bind f).thn sv g = r.thn sv fun v h => (f v h).thn sv g := by cases r <;> rfl
theorem bindL_thn {r : Dl.Rl} {f : List Va → Store → Dl.R} {sv : Dl.Slots} {g : Va → Store → Dl.Rs} : (r.bind f).thn sv g = r.thn sv fun v h => (f v h).thn sv g := by cases r <;> rfl
theorem allShr_ok {l : List (D × Fl)} {vs : List Va} {ds : List D} (r : RFs k h l vs) (e : allShr l = some ds) : Reps k h ds vs := r.shr e
theorem goW_ok {t : Slots → Os → R} {tv : Dl.Slots → Store → Dl.R} {f : Slots → Os → Rs} {g : Dl.Slots → Store → Dl.Rs} {kB : Gk} {hB : Store} {sB : Slots} {svB : Dl.Slots}
    (ht : ∀ k h O s sv, Ev (kb kB sB svB) hB k h → Inv m k h O → SR k h s sv → SimR m k h (t s O) (tv sv h))
    (hf : ∀ k h O s sv, Ev (kb kB sB svB) hB k h → Inv m k h O → SR k h s sv → SimS m k h s sv (f s O) (g sv h)) :
    ∀ (n : Nat) {k : Gk} {h : Store} {O : Os} {s : Slots} {sv : Dl.Slots}, Ev (kb kB sB svB) hB k h → (∀ n, Own s sv n → kb kB sB svB n = .no) → Inv m k h O → SR k h s sv →
    SimS m k h s sv (goW t f n s O) (Dl.goW tv g n sv h)
  | 0, k, h, O, s, sv, e, o, I, S => trivial
  | n + 1, k, h, O, s, sv, e, o, I, S => by
    unfold goW Dl.goW
    refine SimS.thn S (ht _ _ _ _ _ e I S) fun d fl O1 v h1 k1 e1 I1 r1 => ?_
    cases q : truthy (cur O1 d fl) with
    | none => trivial
    | some b =>
      rw [truthy_ok q (r1.vw I1)]
      refine SimS.weakE e1 ?_
      cases b with
      | false => exact .same I1 (S.mono e1)
      | true =>
        have e2 : Ev (kb kB sB svB) hB k1 h1 := (e.kb2 o).trans e1.kb
        refine (hf _ _ _ _ _ e2 I1 (S.mono e1)).seq' fun s' O' sv' h' k' e3 o3 I3 S3 => ?_
        exact goW_ok ht hf n ((e2.kb2 o).trans e3) (fun n w => (e2.kb2 o).no (o3 n w)) I3 S3
theorem hd_kb {a : Option (Nat × List D)} {b : Option (Nat × List Va)} (H : HdR k h a b) (S : SR k h s sv) (e : Ev (kb k s sv) h k' h') : HdR k' h' a b := H.mono (Em.kb S e)
theorem putNst_ok {x v : D} {fx fv : Fl} {vx vv vk : Va} {ky : Option Ky} {h1 h2 h3 : Store} {k3 : Gk} {O : Os} (R : CR m C Cv) (S0 : SR k h s sv) (e1 : Ev k h k1 h1) (rv : RF k k1 h1 v fv vv) (e3 : Ev k1 h1 k3 h3) (I : Inv m k3 h3 O) (rx : RF k1 k3 h3 x fx vx) (hk : ∀ y, ky = some y → vk = y.va) :
    nsts C fx = true → SimS m k h s sv (putNst C s O fx v fv ky) (Dl.putR Cv.gl sv vx vk vv h3) := by
  intro ns
  unfold putNst
  split
  · rename_i i f ds y
    obtain ⟨rfl, n, rfl, kn⟩ := rx
    cases q1 : O[i]? with
    | none => trivial
    | some oj =>
      dsimp only
      split
      · rename_i ps q2
        split
        · rename_i hf
          obtain ⟨c0, ob, rfl, z0, kc, ec, rc⟩ := rv.mono e3
          obtain ⟨d2, o2, f1, f2, f3⟩ := I.fls n i f kn
          unfold fldOf at f1
          rw [q1] at f1
          rw [show (some oj).bind (fun o => lkF f o.fs) = lkF f oj.fs from rfl, q2] at f1
          cases f1
          cases o2 with
          | dct lv =>
            cases ob with
            | lst l' =>
              have ns' : m.ns f = true := by rw [← R.ns]; exact ns
              have hky := hk y rfl
              have f3' : RepQ k3 h3 i f ps lv := f3
              obtain ⟨I4, em⟩ := I.putNst kn ns' q1 q2 hf.2.2 f2 f3' kc ec rc
              have e03 : Ev (kb k s sv) h k3 h3 := (e1.trans e3).kb
              refine ⟨sv, _, _, ?_, ?_, I4, ?_, fun n w => kb_own w⟩
              · unfold Dl.putR
                dsimp only
                rw [f2]
                dsimp only
                rw [hky, if_pos]
                rw [R.gl, f3'.fit, ← f3'.len]
                exact ⟨hf.1, hf.2.1⟩
              · have z0' : kb k s sv c0 = .no := kb_no z0
                have zn : kb k s sv n = .no ∨ kb k s sv n = .fld i f := by
                  by_cases w : kb k s sv n = .no
                  · exact .inl w
                  · exact .inr (by rw [← e03.kd n w]; exact kn)
                refine ⟨fun a w => ?_, fun a w => ?_⟩
                · rw [put_ne]
                  · exact e03.kd a w
                  · rintro rfl; exact w z0'
                · rw [List.getElem?_set_ne]
                  · exact e03.st a w
                  · rintro rfl
                    rcases zn with zn | zn <;> (rw [zn] at w; rcases w with w | w <;> cases w)
              · have S3 : SR k3 h3 s sv := S0.mono (e1.trans e3)
                refine ⟨S3.len, fun j x hx => ?_, S3.dis⟩
                have a := S3.at_ j x hx
                have hq : ∀ n', HoldAt s sv j n' → n' ≠ c0 ∧ n' ≠ n := fun n' w => by
                  have w0 := S0.held w
                  have w3 := S3.held w
                  exact ⟨(by rintro rfl; rw [z0] at w0; cases w0), (by rintro rfl; rw [kn] at w3; cases w3)⟩
                cases x with
                | no => trivial
                | sh d => obtain ⟨v, g1, g2⟩ := a; exact ⟨v, g1, g2.mono em⟩
                | ow d => exact Held.mono em (fun n' w1 w2 => by obtain ⟨p1, p2⟩ := hq n' ⟨⟨d, .inl hx⟩, w1⟩; exact ⟨(put_ne p1).trans w2, List.getElem?_set_ne (Ne.symm p2)⟩) a
                | bo d => exact Held.mono em (fun n' w1 w2 => by obtain ⟨p1, p2⟩ := hq n' ⟨⟨d, .inr hx⟩, w1⟩; exact ⟨(put_ne p1).trans w2, List.getElem?_set_ne (Ne.symm p2)⟩) a
                | bx i f => obtain ⟨n', f1, f2⟩ := a; exact ⟨n', f1, em.fld _ _ _ f2⟩
            | _ => exact rc.elim
          | _ => exact f3.elim
        · trivial
      · trivial
  · trivial
/-- behind a further expression -/
theorem SimS.thn1 {r : R} {rv : Dl.R} {f : D → Fl → Os → Rs} {g : Va → Store → Dl.Rs} (S : SR k h s sv) (e : Ev k h k1 h1) (q : SimR m k1 h1 r rv) (w : ∀ d fl O v h' k', Ev k1 h1 k' h' → Inv m k' h' O → RF k1 k' h' d fl v → SimS m k h s sv (f d fl O) (g v h')) : SimS m k h s sv (r.thn s f) (rv.thn sv g) := by
  cases r with
  | ok d fl O => obtain ⟨v, h2, k2, rfl, e2, e3, e4⟩ := q; exact w d fl O v h2 k2 e2 e3 e4
  | exc c fs O => obtain ⟨v, h2, k2, rfl, e2, e3, e4⟩ := q; exact ⟨v, sv, h2, k2, rfl, (e.trans e2).kb, e3, S.mono (e.trans e2), fun n w => kb_own w, e4⟩
  | bad => trivial
theorem SimS.thnL1 {r : Rl} {rv : Dl.Rl} {f : List (D × Fl) → Os → Rs} {g : List Va → Store → Dl.Rs} (S : SR k h s sv) (e : Ev k h k1 h1) (q : SimL m k1 h1 r rv) (w : ∀ l O v h' k', Ev k1 h1 k' h' → Inv m k' h' O → RFs k' h' l v → SimS m k h s sv (f l O) (g v h')) : SimS m k h s sv (r.thn s f) (rv.thn sv g) := by
  cases r with
  | ok l O => obtain ⟨v, h2, k2, rfl, e2, e3, e4⟩ := q; exact w l O v h2 k2 e2 e3 e4
  | exc c fs O => obtain ⟨v, h2, k2, rfl, e2, e3, e4⟩ := q; exact ⟨v, sv, h2, k2, rfl, (e.trans e2).kb, e3, S.mono (e.trans e2), fun n w => kb_own w, e4⟩
  | bad => trivial
theorem putAt_bad {o : Ex} {x : D} {fx : Fl} {u : D → Option D} (w : fx = .hb ∨ (fx = .ho ∧ ∀ j, o ≠ .v j)) : putAt C s O o x fx u = .bad := by
  rcases w with rfl | ⟨rfl, w⟩
  · rfl
  · cases o <;> first | rfl | exact absurd rfl (w _)
theorem bmT_vw {b : Bm} {d : D} {v : Va} (e : bmT b d = true) (r : Vw k h d v) : Dl.bmT b h v = true := by
  cases d with
  | lst ds =>
    obtain ⟨n, l, rfl, en, _⟩ := r
    exact bmT_ok e en (.inl ⟨_, _, rfl, rfl⟩)
  | dct ps =>
    obtain ⟨n, l, _, _, rfl, en, _⟩ := r
    exact bmT_ok e en (.inr ⟨_, _, rfl, rfl⟩)
  | _ => cases e
theorem ev_vb {j : Nat} {x : D} {O' : Os} {v : Va} (e : evE C (.v j) s O = .ok x .hb O') (ev : Dl.evE Cv (.v j) sv h = .ok v h') : s[j]? = some (.bo x) ∧ sv[j]? = some (some v) := by
  unfold evE at e
  unfold Dl.evE at ev
  constructor
  · split at e <;> first | (cases e; done) | skip
    cases e
    assumption
  · split at ev
    · cases ev
      assumption
    · cases ev
theorem okthn {d : D} {fl : Fl} {f : D → Fl → Os → Rs} : (R.ok d fl O).thn s f = f d fl O := rfl
theorem okthnV {v : Va} {f : Va → Store → Dl.Rs} : (Dl.R.ok v h).thn sv f = f v h := rfl
theorem putAt_bad2 {o : Ex} {x : D} {fx : Fl} {u : D → Option D} (w : fx = .shr ∨ fx = .hb ∨ (fx = .ho ∧ ∀ j, o ≠ .v j)) : putAt C s O o x fx u = .bad := by
  rcases w with rfl | w
  · rfl
  · exact putAt_bad w
theorem exS_fr {t : Tg} {it : Ex} {b : List Sm} : exS C (.fr t it b) s O = (evE C it s O).thn s fun d fd O => if okIt it fd then (match iter (cur O d fd) with
    | some l => goS (stay (cur O d fd) fd) (fun x s O => match asn t x .shr s with
      | some s' => exB C b s' O
      | none => .bad) l s O
    | none => .bad) else .bad := by
  conv => lhs; unfold exS
  all_goals rfl
theorem turn_ok {t : Tg} {b : List Sm} (hB : ∀ {k : Gk} {h : Store} {O : Os} {s : Slots} {sv : Dl.Slots}, HdR k h C.hd Cv.hd → Inv m k h O → SR k h s sv → SimS m k h s sv (exB C b s O) (Dl.exB Cv b sv h))
    {k : Gk} {h : Store} {O : Os} {s : Slots} {sv : Dl.Slots} {x : D} {v : Va} (H : HdR k h C.hd Cv.hd) (I : Inv m k h O) (S : SR k h s sv) (r : Rep k h x v) :
    SimS m k h s sv (match asn t x .shr s with
      | some s' => exB C b s' O
      | none => .bad) (Dl.turnS Cv t b v sv h) := by
  unfold Dl.turnS
  cases q : asn t x .shr s with
  | none => trivial
  | some s' =>
    obtain ⟨sv', e1, S1, o1⟩ := asn_ok t S r q
    rw [e1]
    exact (hB H I S1).weak Ev.refl.kb fun n ⟨i, a⟩ => kb_own ⟨i, o1 i n a⟩
mutual
theorem simS : ∀ (st : Sm) {C : Cfg} {Cv : Dl.Cfg} {k : Gk} {h : Store} {O : Os} {s : Slots} {sv : Dl.Slots}, CR m C Cv → HdR k h C.hd Cv.hd → Inv m k h O → SR k h s sv → SimS m k h s sv (exS C st s O) (Dl.exS Cv st sv h)
  | .asg t e, C, Cv, k, h, O, s, sv, R, H, I, S => by
    unfold exS Dl.exS
    refine SimS.thn S (simE e R H I S) fun d fl O1 v h1 k1 e1 I1 r1 => ?_
    cases q : asn t d fl s with
    | none => trivial
    | some s' =>
      obtain ⟨sv', q1, S1, o1⟩ := asnF_ok t (S.mono e1) r1 (fun j n a => held_ne (S.held a)) q
      rw [q1]
      exact ⟨sv', h1, k1, rfl, e1.kb, I1, S1, fun n ⟨i, a⟩ => by
        rcases o1 i n a with w | w
        · exact kb_own ⟨i, w⟩
        · exact kb_no w⟩
  | .par i j a b, C, Cv, k, h, O, s, sv, R, H, I, S => by
    unfold exS Dl.exS
    refine SimS.thn S (simE a R H I S) fun d fl O1 v h1 k1 e1 I1 r1 => ?_
    have w := simE b R (H.mono e1.em) I1 (S.mono e1)
    refine SimS.thn1 S e1 w fun d2 fl2 O2 v2 h2 k2 e2 I2 r2 => ?_
    cases q : asn (.nm i) d fl s with
    | none => trivial
    | some s1 =>
      dsimp only
      cases q2 : asn (.nm j) d2 fl2 s1 with
      | none => trivial
      | some s2 =>
        have S2 := S.mono (e1.trans e2)
        obtain ⟨sv1, p1, S3, o1⟩ := asnF_ok (.nm i) S2 (r1.mono e2) (fun j n a => held_ne (S.held a)) q
        have hold1 : ∀ j n, HoldAt s1 sv1 j n → k1 n ≠ .no := fun j n a => by
          have hs1 : (∃ d', s1 = s.set i (.sh d') ∧ (∀ n', ¬ OwnAt s1 sv1 i n')) ∨ fl = .fr := by
            unfold asn at q
            cases fl with
            | shr => cases q; exact .inl ⟨d, rfl, fun n' ⟨⟨d', z⟩, _⟩ => by
                rcases getS z with ⟨_, z⟩ | ⟨z, _⟩
                · cases z
                · exact z rfl⟩
            | fr => exact .inr rfl
            | _ => cases q
          have hn : sv1 = sv.set i (some v) := by
            unfold Dl.asn at p1
            cases p1
            rfl
          by_cases c : i = j
          · subst c
            obtain ⟨⟨d', z⟩, z2⟩ := a
            unfold asn at q
            cases fl with
            | shr =>
              cases q
              rcases z with z | z
              · rcases getS z with ⟨_, z⟩ | ⟨z, _⟩
                · cases z
                · exact absurd rfl z
              · rcases getS z with ⟨_, z⟩ | ⟨z, _⟩
                · cases z
                · exact absurd rfl z
            | fr =>
              obtain ⟨n2, ob, rfl, z0, kn, _⟩ := r1
              rw [hn] at z2
              rcases getS z2 with ⟨_, z⟩ | ⟨z, _⟩
              · cases z
                exact held_ne kn
              · exact absurd rfl z
            | _ => cases q
          · have a' : HoldAt s sv j n := by
              obtain ⟨⟨d', z⟩, z2⟩ := a
              rw [hn, List.getElem?_set_ne c] at z2
              refine ⟨⟨d', ?_⟩, z2⟩
              unfold asn at q
              cases fl with
              | shr => cases q; rw [List.getElem?_set_ne c] at z; exact z
              | fr => cases q; rw [List.getElem?_set_ne c] at z; exact z
              | _ => cases q
            exact held_ne ((S.mono e1).held a')
        obtain ⟨sv2, p2, S4, o2⟩ := asnF_ok (.nm j) S3 r2 hold1 q2
        refine ⟨sv2, h2, k2, ?_, (e1.trans e2).kb, I2, S4, fun n ⟨i', a⟩ => ?_⟩
        · unfold Dl.asn at p1 p2
          cases p1
          cases p2
          rfl
        · rcases o2 i' n a with w | w
          · rcases o1 i' n w with w | w
            · exact kb_own ⟨i', w⟩
            · exact kb_no w
          · exact kb_no (e1.no w)
  | .fld o f e, C, Cv, k, h, O, s, sv, R, H, I, S => by
    unfold exS Dl.exS
    refine SimS.thn S (simE e R H I S) fun d fl O1 v h1 k1 e1 I1 r1 => ?_
    refine SimS.thn1 S e1 (simE o R (H.mono e1.em) I1 (S.mono e1)) fun x fx O2 v2 h2 k2 e2 I2 r2 => ?_
    cases x with
    | obj n =>
      obtain ⟨a, rfl, ka⟩ := (r2.rep rfl).vw.obj
      obtain ⟨oj, l, o1, o2, o3⟩ := I2.obs a n ka
      dsimp only
      rw [o1, o2, R.cls]
      dsimp only
      cases q2 : C.cls[oj.c]? with
      | none => trivial
      | some kl =>
        dsimp only
        by_cases hc : oj.fs.length < 1000 ∧ f ∈ kl.flds ∧ (if C.mut_ f = true then isFr fl && (lkF f oj.fs).isNone else fl.free) = true
        · rw [if_pos hc]
          rw [if_pos ⟨by rw [← o3.len]; exact hc.1, hc.2.1⟩]
          have hm := hc.2.2
          rw [R.mu] at hm
          by_cases mf : m.mu f = true
          · rw [if_pos mf] at hm
            rw [Bool.and_eq_true] at hm
            cases fl <;> first | (cases hm.1; done) | skip
            obtain ⟨b, ob, rfl, z0, kb1, eb, rc⟩ := r1.mono e2
            obtain ⟨I3, em⟩ := I2.setMut ka o1 o2 o3 mf (by simpa using hm.2) kb1 eb rc
            have e02 := (e1.trans e2).kb (s := s) (sv := sv)
            have S2 := S.mono (e1.trans e2)
            have na : ∀ {x : Kd}, Pu.kb k s sv a = x → x ≠ .no → x = .obj n := fun {x} w w2 => by
              rw [← w] at w2 ⊢
              rw [← e02.kd a w2]
              exact ka
            refine ⟨sv, _, _, rfl, ⟨fun c w => ?_, fun c w => ?_⟩, I3, ⟨S2.len, fun j x hx => ?_, S2.dis⟩, fun n' w => kb_own w⟩
            · rw [put_ne]
              · exact e02.kd c w
              · rintro rfl; exact w (kb_no z0)
            · rw [List.getElem?_set_ne]
              · exact e02.st c w
              · rintro rfl
                rcases w with w | w <;> (have := na w (fun z => by cases z); cases this)
            · have q := S2.at_ j x hx
              have hq : ∀ n', HoldAt s sv j n' → n' ≠ b ∧ n' ≠ a := fun n' w => by
                have w0 := S.held w
                have w3 := S2.held w
                exact ⟨(by rintro rfl; rw [z0] at w0; cases w0), (by rintro rfl; rw [ka] at w3; cases w3)⟩
              cases x with
              | no => trivial
              | sh d => obtain ⟨v, g1, g2⟩ := q; exact ⟨v, g1, g2.mono em⟩
              | ow d => exact Held.mono em (fun n' w1 w2 => by obtain ⟨p1, p2⟩ := hq n' ⟨⟨d, .inl hx⟩, w1⟩; exact ⟨(put_ne p1).trans w2, List.getElem?_set_ne (Ne.symm p2)⟩) q
              | bo d => exact Held.mono em (fun n' w1 w2 => by obtain ⟨p1, p2⟩ := hq n' ⟨⟨d, .inr hx⟩, w1⟩; exact ⟨(put_ne p1).trans w2, List.getElem?_set_ne (Ne.symm p2)⟩) q
              | bx i f => obtain ⟨n', f1, f2⟩ := q; exact ⟨n', f1, em.fld _ _ _ f2⟩
          · rw [if_neg mf] at hm
            obtain ⟨k3, I3, e3, em3, r3, kk⟩ := (r1.mono e2).share I2 (e1.trans e2) hm
            have ka3 : k3 a = .obj n := em3.obj _ _ ka
            obtain ⟨oj', l', o1', o2', o3'⟩ := I3.obs a n ka3
            rw [o1] at o1'
            cases o1'
            rw [o2] at o2'
            cases o2'
            obtain ⟨I4, em⟩ := I3.setFld ka3 o1 o2 o3' (by simpa using mf) r3
            have e03 := e3.kb (s := s) (sv := sv)
            have S3 := S.mono e3
            refine ⟨sv, _, _, rfl, ⟨e03.kd, fun c w => ?_⟩, I4, S3.upd em (fun j n' w => ?_), fun n' w => kb_own w⟩
            · rw [List.getElem?_set_ne]
              · exact e03.st c w
              · rintro rfl
                have : Pu.kb k s sv a ≠ .no := by rcases w with w | w <;> (rw [w]; exact fun z => by cases z)
                rw [← e03.kd a this, ka3] at w
                rcases w with w | w <;> cases w
            · rw [List.getElem?_set_ne]
              rintro rfl
              have := S3.held w
              rw [ka3] at this
              cases this
        · rw [if_neg hc]
          trivial
    | _ => trivial
  | .sub o i e, C, Cv, k, h, O, s, sv, R, H, I, S => by
    rw [Dl.exS_sub]
    unfold exS
    refine SimS.thn S (simE e R H I S) fun v fv O1 vv h1 k1 e1 I1 r1 => ?_
    have w2 := simE o R (H.mono e1.em) I1 (S.mono e1)
    cases q2 : evE C o s O1 with
    | bad => trivial
    | exc c fs O2 =>
      rw [q2] at w2
      obtain ⟨vs, h2, k2, p1, p2, p3, p4⟩ := w2
      rw [p1]
      exact ⟨vs, sv, h2, k2, rfl, (e1.trans p2).kb, p3, S.mono (e1.trans p2), fun n w => kb_own w, p4⟩
    | ok x fx O2 =>
      rw [q2] at w2
      obtain ⟨vx, h2, k2, p1, e2, I2, r2⟩ := w2
      rw [p1]
      rw [okthn, okthnV]
      refine SimS.thn1 S (e1.trans e2) (simE i R (H.mono (e1.trans e2).em) I2 (S.mono (e1.trans e2))) fun y fy O3 vy h3 k3 e3 I3 r3 => ?_
      by_cases ns : nsts C fx = true
      · rw [if_pos ns]
        exact putNst_ok (h2 := h2) R S e1 r1 (e2.trans e3) I3 (r2.mono e3) (fun y' z => keyOf_vw (r3.vw I3) z) ns
      · rw [if_neg ns]
        by_cases hc : (fv.free && !isOwn v) = true
        · rw [if_pos hc]
          rw [Bool.and_eq_true] at hc
          obtain ⟨k4, I4, e4, em4, rv4, kk⟩ := (r1.mono (e2.trans e3)).share I3 (e1.trans (e2.trans e3)) hc.1
          have ne : ∀ n, (k n ≠ .no ∨ k1 n = .no) → k4 n = k3 n := fun n w => by
            by_cases c : k4 n = k3 n
            · exact c
            · obtain ⟨w1, w2⟩ := kk n c
              subst w2
              obtain ⟨n', ob, q, z0, z1, _⟩ := r1
              rw [w1] at q
              cases q
              rcases w with w | w
              · exact absurd z0 w
              · rw [w] at z1; cases z1
          have nf : ∀ n, (k3 n).spec = true → k4 n = k3 n := fun n w => by
            by_cases c : k4 n = k3 n
            · exact c
            · obtain ⟨w1, w2⟩ := kk n c
              subst w2
              obtain ⟨n', ob, q, z0, z1, _⟩ := r1.mono (e2.trans e3)
              rw [w1] at q
              cases q
              rw [z1] at w
              cases w
          by_cases bad : fx = .hb ∨ (fx = .ho ∧ ∀ j, o ≠ .v j)
          · rw [putAt_bad bad]; trivial
          have r2' : RF k k4 h3 x fx vx := by
            have a := r2.mono e3
            refine RF.weak e1 ?_
            cases fx with
            | shr => exact Rep.mono em4 a
            | fr =>
              obtain ⟨n, ob, rfl, z0, z1, z2, z3⟩ := a
              exact ⟨n, ob, rfl, z0, by rw [ne n (.inr z0)]; exact z1, z2, z3.mono em4⟩
            | ho =>
              obtain ⟨n, ob, rfl, z1, z2, z3⟩ := a
              have kn : k n ≠ .no := by
                cases o with
                | v j =>
                  obtain ⟨p2, p3⟩ := ev_v q2 p1
                  exact held_ne (S.held (OwnAt.hold ⟨⟨x, p2⟩, p3⟩))
                | _ => exact absurd (.inr ⟨rfl, fun j w => by cases w⟩) bad
              exact ⟨n, ob, rfl, by rw [ne n (.inl kn)]; exact z1, z2, z3.mono em4⟩
            | hb => exact absurd (.inl rfl) bad
            | hf i f =>
              obtain ⟨hd, n, rfl, z1⟩ := a
              exact ⟨hd, n, rfl, by rw [nf n (by rw [z1]; rfl)]; exact z1⟩
            | hk i f y =>
              obtain ⟨hd, n, rfl, z1⟩ := a
              exact ⟨hd, n, rfl, by rw [nf n (by rw [z1]; rfl)]; exact z1⟩
          refine putAt_ok (rv := fun u => Dl.putR Cv.gl sv u vy vv h3) R I4 S e4 r2' (fun hx j hj => ?_) (fun n d d' ob hv en rc hu => ?_)
          · subst hx
            subst hj
            exact ev_v q2 p1
          · subst hv
            unfold subU at hu
            split at hu
            · rename_i l
              split at hu
              rotate_left
              · cases hu
              rename_i ky hky
              cases ob with
              | dct lv =>
                have rc' : RepP k4 h3 l lv := rc
                split at hu
                · rename_i hf
                  cases hu
                  refine ⟨.dct (Dl.dput lv ky.va vv), ?_, rc'.put (y := ky) rv4⟩
                  unfold Dl.putR
                  dsimp only
                  rw [en]
                  dsimp only
                  rw [keyOf_vw (r3.vw I3) hky, if_pos]
                  rw [R.gl, rc'.toG.fit, ← rc'.toG.len]
                  exact hf
                · cases hu
              | _ => exact rc.elim
            · cases hu
        · rw [if_neg hc]
          trivial
  | .ex e, C, Cv, k, h, O, s, sv, R, H, I, S => by
    have dflt : SimS m k h s sv ((evE C e s O).thn s fun _ _ O => .nx s O) (Dl.exS Cv (.ex e) sv h) := by
      unfold Dl.exS
      exact SimS.thn S (simE e R H I S) fun d fl O1 v h1 k1 e1 I1 r1 => SimS.weakE e1 (.same I1 (S.mono e1))
    unfold exS
    split
    · rename_i b o es
      unfold Dl.exS Dl.evE
      rw [bind_thn]
      have w2 := simE o R H I S
      cases q2 : evE C o s O with
      | bad => trivial
      | exc c fs O2 =>
        rw [q2] at w2
        obtain ⟨vs, h2, k2, p1, p2, p3, p4⟩ := w2
        rw [p1]
        exact ⟨vs, sv, h2, k2, rfl, p2.kb, p3, S.mono p2, fun n w => kb_own w, p4⟩
      | ok x fx O2 =>
        rw [q2] at w2
        obtain ⟨vx, h2, k2, p1, e2, I2, r2⟩ := w2
        rw [p1]
        rw [okthn, okthnV]
        by_cases ct : bmT b (cur O2 x fx) = true
        · rw [if_pos ct]
          by_cases bad : fx = .shr ∨ fx = .hb ∨ (fx = .ho ∧ ∀ j, o ≠ .v j)
          · cases q3 : evL C es s O2 with
            | bad => trivial
            | ok l O3 =>
              dsimp only [Pu.Rl.thn]
              cases q4 : allShr l with
              | none => trivial
              | some vs =>
                dsimp only
                rw [putAt_bad2 bad]
                trivial
            | exc c fs O3 =>
              have w3 := simL es R (H.mono e2.em) I2 (S.mono e2)
              rw [q3] at w3
              obtain ⟨vs, h3, k3, p2, p3, p4, p5⟩ := w3
              have bt : Dl.bmT b h2 vx = true := bmT_vw ct (r2.vw I2)
              rw [if_pos bt, bindL_thn, p2]
              exact ⟨vs, sv, h3, k3, rfl, (e2.trans p3).kb, p4, S.mono (e2.trans p3), fun n w => kb_own w, p5⟩
          · have bt : Dl.bmT b h2 vx = true := bmT_vw ct (r2.vw I2)
            rw [if_pos bt, bindL_thn]
            refine SimS.thnL1 S e2 (simL es R (H.mono e2.em) I2 (S.mono e2)) fun l O3 vs h3 k3 e3 I3 r3 => ?_
            cases q3 : allShr l with
            | none => trivial
            | some ds =>
              dsimp only
              have r2' := r2.mono e3
              refine putAt_ok (rv := fun u => (Dl.bmf b h3 u vs).thn sv fun _ h => .nx sv h) R I3 S (e2.trans e3) r2' (fun hx j hj => ?_) (fun n d d' ob hv en rc hu => ?_)
              · subst hx
                subst hj
                exact ev_v q2 p1
              · subst hv
                obtain ⟨ob', w1, w2⟩ := bmf_ok hu en rc (r3.shr q3)
                exact ⟨ob', by rw [w1]; rfl, w2⟩
        · rw [if_neg ct]
          trivial
    · exact dflt
  | .ret e, C, Cv, k, h, O, s, sv, R, H, I, S => by
    have dflt : SimS m k h s sv ((evE C e s O).thn s fun v fv O => if fv.free then .rt v fv O else .bad) (Dl.exS Cv (.ret e) sv h) := by
      unfold Dl.exS
      refine SimS.thn S (simE e R H I S) fun d fl O1 v h1 k1 e1 I1 r1 => ?_
      by_cases c : fl.free = true
      · rw [if_pos c]
        refine ⟨v, h1, k1, rfl, e1.kb, I1, ?_, c⟩
        cases fl with
        | fr => obtain ⟨n, o, rfl, z0, z⟩ := r1; exact ⟨n, o, rfl, kb_no z0, z⟩
        | _ => first | exact r1 | (cases c; done)
      · rw [if_neg c]
        trivial
    unfold exS
    split
    · rename_i i
      unfold Dl.exS Dl.evE
      cases q : s[i]? with
      | none => trivial
      | some x =>
        have a := S.at_ i x q
        cases x with
        | sh d =>
          obtain ⟨v, e1, e2⟩ := a
          rw [e1]
          exact ⟨v, h, k, rfl, Ev.refl.kb, I, e2, rfl⟩
        | ow d =>
          obtain ⟨n, o, e1, e2, e3, e4⟩ := a
          rw [e1]
          exact ⟨_, h, k, rfl, Ev.refl.kb, I, ⟨n, o, rfl, kb_own ⟨i, ⟨d, q⟩, e1⟩, e2, e3, e4⟩, rfl⟩
        | _ => trivial
    · exact dflt
  | .retN, C, Cv, k, h, O, s, sv, R, H, I, S => by
    unfold exS Dl.exS
    exact ⟨.non, h, k, rfl, Ev.refl.kb, I, Rep.non, rfl⟩
  | .pass, C, Cv, k, h, O, s, sv, R, H, I, S => by
    unfold exS Dl.exS
    exact .same I S
  | .ite c a b, C, Cv, k, h, O, s, sv, R, H, I, S => by
    unfold exS Dl.exS
    refine SimS.thn S (simE c R H I S) fun d fl O1 v h1 k1 e1 I1 r1 => ?_
    cases q : truthy (cur O1 d fl) with
    | none => trivial
    | some t =>
      rw [truthy_ok q (r1.vw I1)]
      refine SimS.weakE e1 ?_
      cases t with
      | true => exact simB a R (H.mono e1.em) I1 (S.mono e1)
      | false => exact simB b R (H.mono e1.em) I1 (S.mono e1)
  | .fr t it b, C, Cv, k, h, O, s, sv, R, H, I, S => by
    rw [exS_fr, Dl.exS_fr]
    have w := simE it R H I S
    cases q2 : evE C it s O with
    | bad => trivial
    | exc c fs O2 =>
      rw [q2] at w
      obtain ⟨vs, h2, k2, p1, p2, p3, p4⟩ := w
      rw [p1]
      exact ⟨vs, sv, h2, k2, rfl, p2.kb, p3, S.mono p2, fun n w => kb_own w, p4⟩
    | ok d fd O1 =>
      rw [q2] at w
      obtain ⟨v, h1, k1, p1, e1, I1, r1⟩ := w
      rw [p1]
      rw [okthn, okthnV]
      by_cases ok : okIt it fd = true
      · rw [if_pos ok]
        cases q : iter (cur O1 d fd) with
        | none => trivial
        | some ds =>
          obtain ⟨l, n, q1, q3, q4⟩ := iter_ok q (r1.vw I1)
          rw [q1]
          dsimp only
          have S1 := S.mono e1
          refine SimS.weakE e1 (goS_ok (kB := k1) (hB := h1) (sB := s) (svB := sv) (fun k' h' O' ev I' z => ?_) (fun x v k' h' O' s' sv' ev I' S' rx => turn_ok (fun H I S => simB b R H I S) ((H.mono e1.em).mono (Em.kb S1 ev)) I' S' rx) ds Ev.refl.kb (fun n w => kb_own w) I1 S1 q3)
          refine stay_gen I1 r1 q3 q4 (Em.kb S1 ev) (nst_kb S1 ev) (fun hf n hv => ?_) I' z
          subst hv
          have fin : k1 n = .held → ¬ Own s sv n → h'[n]? = h1[n]? := fun a b => ev.st n (.inr (by rw [kb_not b]; exact a))
          rcases hf with rfl | rfl | rfl
          · obtain ⟨n', o, q, z0, z, _⟩ := r1
            cases q
            refine fin z fun ow => ?_
            have := S.ownHeld ow
            rw [z0] at this
            cases this
          · cases ok
          · obtain ⟨n', o, q, z, _⟩ := r1
            cases q
            refine fin z fun ow => ?_
            unfold okIt at ok
            dsimp only at ok
            split at ok
            · rename_i j
              have hb := ev_vb q2 p1
              obtain ⟨i, oa⟩ := ow
              have := S.dis i j n oa ⟨⟨d, .inr hb.1⟩, hb.2⟩
              subst this
              obtain ⟨⟨d', z1⟩, _⟩ := oa
              rw [hb.1] at z1
              cases z1
            · cases ok
      · rw [if_neg ok]
        trivial
  | .frR t es b, C, Cv, k, h, O, s, sv, R, H, I, S => by
    rw [Dl.exS_frR]
    unfold exS
    refine SimS.thnL S (simL es R H I S) fun vs O1 v h1 k1 e1 I1 r1 => ?_
    cases q : rngI (curs O1 vs) with
    | none => trivial
    | some ds =>
      obtain ⟨l, q1, q2⟩ := rngI_ok q (r1.vws I1)
      rw [q1]
      have S1 := S.mono e1
      exact SimS.weakE e1 (goS_ok (kB := k1) (hB := h1) (sB := s) (svB := sv) (fun k' h' O' ev I' z => rfl) (fun x v k' h' O' s' sv' ev I' S' rx => turn_ok (fun H I S => simB b R H I S) ((H.mono e1.em).mono (Em.kb S1 ev)) I' S' rx) ds Ev.refl.kb (fun n w => kb_own w) I1 S1 q2)
  | .whl c b, C, Cv, k, h, O, s, sv, R, H, I, S => by
    unfold exS Dl.exS
    rw [R.wl, R.wlv]
    unfold wlc
    split
    · rename_i hh
      have hn := Classical.choose_spec hh
      generalize Classical.choose hh = n at hn ⊢
      have w := goW_ok (t := fun s O => evE C c s O) (tv := fun s h => Dl.evE Cv c s h) (f := fun s O => exB C b s O) (g := fun s h => Dl.exB Cv b s h) (kB := k) (hB := h) (sB := s) (svB := sv) (fun k' h' O' s' sv' ev I' S' => simE c R (H.mono (Em.kb S ev)) I' S') (fun k' h' O' s' sv' ev I' S' => simB b R (H.mono (Em.kb S ev)) I' S') n Ev.refl.kb (fun n w => kb_own w) I S
      have nb : Dl.goW (fun s h => Dl.evE Cv c s h) (fun s h => Dl.exB Cv b s h) n sv h ≠ .bad := by
        intro z
        rw [z] at w
        dsimp only at hn
        revert w hn
        generalize goW (fun s O => evE C c s O) (fun s O => exB C b s O) n s O = r
        intro hn w
        cases r with
        | nx s' O' => obtain ⟨_, _, _, z, _⟩ := w; cases z
        | rt d fl O' => obtain ⟨_, _, _, z, _⟩ := w; cases z
        | exc c fs s' O' => obtain ⟨_, _, _, _, z, _⟩ := w; cases z
        | bad => exact hn rfl
      rw [Dl.wlc_goW nb]
      exact w
    · trivial
  | .rse c es, C, Cv, k, h, O, s, sv, R, H, I, S => by
    unfold exS Dl.exS
    refine SimS.thnL S (simL es R H I S) fun l O1 v h1 k1 e1 I1 r1 => ?_
    cases q : allShr l with
    | none => trivial
    | some ds => exact ⟨v, sv, h1, k1, rfl, e1.kb, I1, S.mono e1, fun n w => kb_own w, r1.shr q⟩
  | .try_ b hs, C, Cv, k, h, O, s, sv, R, H, I, S => by
    unfold exS Dl.exS
    have w := simB b R H I S
    cases q : exB C b s O with
    | bad => trivial
    | nx s' O' => rw [q] at w; obtain ⟨sv', h', k', q1, w⟩ := w; rw [q1]; exact ⟨sv', h', k', rfl, w⟩
    | rt d fl O' => rw [q] at w; obtain ⟨sv', h', k', q1, w⟩ := w; rw [q1]; exact ⟨sv', h', k', rfl, w⟩
    | exc c fs s' O' =>
      rw [q] at w
      obtain ⟨vs, sv', h', k', q1, q2, q3, q4, q5, q6⟩ := w
      rw [q1]
      exact (simH hs R (H.mono (Em.kb S q2)) q3 q4 q6).weak q2 q5
  | .tryn b, C, Cv, k, h, O, s, sv, R, H, I, S => by
    unfold exS Dl.exS
    have w := simB b R H I S
    cases q : exB C b s O with
    | bad => trivial
    | nx s' O' => rw [q] at w; obtain ⟨sv', h', k', q1, w⟩ := w; rw [q1]; exact ⟨sv', h', k', rfl, w⟩
    | rt d fl O' => rw [q] at w; obtain ⟨sv', h', k', q1, w⟩ := w; rw [q1]; exact ⟨sv', h', k', rfl, w⟩
    | exc c fs s' O' => trivial
  | .nvr, C, Cv, k, h, O, s, sv, R, H, I, S => by
    unfold exS
    trivial
  | .frz l, C, Cv, k, h, O, s, sv, R, H, I, S => by
    unfold exS Dl.exS
    exact frzS_ok l I S
theorem simB : ∀ (b : List Sm) {C : Cfg} {Cv : Dl.Cfg} {k : Gk} {h : Store} {O : Os} {s : Slots} {sv : Dl.Slots}, CR m C Cv → HdR k h C.hd Cv.hd → Inv m k h O → SR k h s sv → SimS m k h s sv (exB C b s O) (Dl.exB Cv b sv h)
  | [], C, Cv, k, h, O, s, sv, R, H, I, S => by
    unfold exB Dl.exB
    exact .same I S
  | st :: r, C, Cv, k, h, O, s, sv, R, H, I, S => by
    unfold exB Dl.exB
    exact (simS st R H I S).seq fun s' O' sv' h' k' e1 I1 S1 => simB r R (H.mono (Em.kb S e1)) I1 S1
theorem simH : ∀ (hs : List (Nat × Option Nat × List Sm)) {C : Cfg} {Cv : Dl.Cfg} {k : Gk} {h : Store} {O : Os} {s : Slots} {sv : Dl.Slots} {c : Nat} {fs : List D} {vs : List Va}, CR m C Cv → HdR k h C.hd Cv.hd → Inv m k h O → SR k h s sv → Reps k h fs vs → SimS m k h s sv (exH C hs c fs s O) (Dl.exH Cv hs c vs sv h)
  | [], C, Cv, k, h, O, s, sv, c, fs, vs, R, H, I, S, rf => by
    unfold exH Dl.exH
    exact ⟨vs, sv, h, k, rfl, Ev.refl.kb, I, S, fun n w => kb_own w, rf⟩
  | (d, n, b) :: r, C, Cv, k, h, O, s, sv, c, fs, vs, R, H, I, S, rf => by
    unfold exH Dl.exH
    have sub : Dl.Cfg.sub Cv c d = C.sub c d := by unfold Dl.Cfg.sub Cfg.sub; rw [R.cls]; all_goals rfl
    rw [sub]
    by_cases q : C.sub c d = true
    · rw [if_pos q, if_pos q]
      have R' : CR m { C with hd := some (c, fs) } { Cv with hd := some (c, vs) } := ⟨R.gl, R.pl, R.cls, R.mu, R.ns, R.wl, R.wlv, R.run⟩
      have H' : HdR k h (some (c, fs)) (some (c, vs)) := ⟨rfl, rf⟩
      cases n with
      | none => exact simB b R' H' I S
      | some i =>
        dsimp only
        have w := simB b R' H' I (S.set_sh i .hx)
        have wk : ∀ {r rv}, SimS m k h (s.set i (.sh .hx)) (sv.set i (some .hx)) r rv → SimS m k h s sv r rv := fun z => z.weak Ev.refl.kb fun n ⟨j, a⟩ => kb_own ⟨j, own_set (fun _ z => by cases z) a⟩
        have w := wk w
        cases q2 : exB { C with hd := some (c, fs) } b (s.set i (.sh .hx)) O with
        | bad => trivial
        | nx s' O' =>
          rw [q2] at w
          obtain ⟨sv', h', k', q1, w1, w2, w3, w4⟩ := w
          rw [q1]
          exact ⟨_, h', k', rfl, w1, w2, w3.set_no i none, fun n ⟨j, a⟩ => w4 n ⟨j, own_set (fun _ z => by cases z) a⟩⟩
        | rt d fl O' => rw [q2] at w; obtain ⟨sv', h', k', q1, w⟩ := w; rw [q1]; exact ⟨sv', h', k', rfl, w⟩
        | exc c fs s' O' => trivial
    · rw [if_neg q, if_neg q]
      exact simH r R H I S rf
end
end
end Pu
set_option Elab.async false
set_option linter.all false
set_option maxRecDepth 100000
set_option maxHeartbeats 4000000
/-! Every def: the tree reading stands for the store's. -/
namespace Pu
open PySem (Str sizeLine PyData)
open Dl (Va Ob Store Bop Cop Bi Bm Tyk Tg Ex Sm Fn)
/-- one program read both ways -/
structure PR (P : Prog) (Pv : Dl.Prog) : Prop where
  fn : Pv.fns = P.fns
  gl : Pv.gl = P.gl
  cls : Pv.cls = P.cls
  wl : P.wl = wlc
  wlv : Pv.wl = Dl.wlc
  pl : plainVs P.gl = true
  dv : ∀ d ∈ P.fns, plainVs d.dv = true
section
variable {P : Prog} {Pv : Dl.Prog} {k : Gk} {h : Store} {O : Os}
theorem ArgsR.len : ∀ {as : List Sl} {vs : List Va}, ArgsR k h as vs → as.length = vs.length
  | _, _, .nil => rfl
  | _, _, .cons _ r => by simp [ArgsR.len r]
theorem ArgsR.append : ∀ {as bs : List Sl} {vs ws : List Va}, ArgsR k h as vs → ArgsR k h bs ws → ArgsR k h (as ++ bs) (vs ++ ws)
  | _, _, _, _, .nil, q => q
  | _, _, _, _, .cons a r, q => .cons a (ArgsR.append r q)
theorem ArgsR.get : ∀ {as : List Sl} {vs : List Va} {i : Nat} {x : Sl}, ArgsR k h as vs → as[i]? = some x → ∃ v, vs[i]? = some v ∧ ArgR k h x v
  | _, _, _, _, .nil, e => by simp at e
  | _, _, 0, _, .cons a _, e => by simp at e; subst e; exact ⟨_, rfl, a⟩
  | _, _, i + 1, _, .cons _ r, e => by
    obtain ⟨w, h1, h2⟩ := ArgsR.get (i := i) r (by simpa using e)
    exact ⟨w, by simpa using h1, h2⟩
theorem ArgsR.plain : ∀ {vs : List Va}, plainVs vs = true → ArgsR k h (vs.map fun v => .sh (dOf v)) vs
  | [], _ => .nil
  | v :: vs, e => by
    unfold plainVs at e
    rw [Bool.and_eq_true] at e
    exact .cons (x := .sh (dOf v)) (rep_dOf v e.1) (ArgsR.plain e.2)
theorem start_ok {as : List Sl} {vs : List Va} {n : Nat} (r : ArgsR k h as vs) : SR k h (as ++ List.replicate n .no) (vs.map some ++ List.replicate n none) ∧ ∀ i a, ¬ OwnAt (as ++ List.replicate n .no) (vs.map some ++ List.replicate n none) i a := by
  have key : ∀ (i : Nat) (x : Sl), (as ++ List.replicate n .no)[i]? = some x → SlR k h x (vs.map some ++ List.replicate n none)[i]? ∧ ∀ d, x ≠ .ow d := fun i x e => by
    by_cases c : i < as.length
    · rw [List.getElem?_append_left c] at e
      obtain ⟨v, e1, e2⟩ := r.get e
      rw [List.getElem?_append_left (by rw [List.length_map, ← r.len]; exact c), List.getElem?_map, e1]
      cases x with
      | no => exact e2.elim
      | sh d => exact ⟨⟨v, rfl, e2⟩, fun d z => by cases z⟩
      | ow d => exact e2.elim
      | bo d => exact ⟨e2, fun d z => by cases z⟩
      | bx i f => obtain ⟨n, rfl, z⟩ := e2; exact ⟨⟨n, rfl, z⟩, fun d z => by cases z⟩
    · rw [List.getElem?_append_right (by omega), List.getElem?_replicate] at e
      split at e
      · cases e; exact ⟨trivial, fun d z => by cases z⟩
      · cases e
  have no : ∀ i a, ¬ OwnAt (as ++ List.replicate n .no) (vs.map some ++ List.replicate n none) i a := fun i a ⟨⟨d, e⟩, _⟩ => (key i _ e).2 d rfl
  exact ⟨⟨by simp [r.len], fun i x e => (key i x e).1, fun i j a p _ => absurd p (no i a)⟩, no⟩
theorem run_ok (q : PR P Pv) : ∀ (n f : Nat) (as : List Sl) (O : Os) (k : Gk) (h : Store) (vs : List Va), Inv ⟨P.mut_, P.nst⟩ k h O → ArgsR k h as vs → SimR ⟨P.mut_, P.nst⟩ k h (run P n f as O) (Dl.run Pv n f vs h)
  | 0, f, as, O, k, h, vs, I, r => trivial
  | n + 1, f, as, O, k, h, vs, I, r => by
    unfold run Dl.run
    rw [q.fn]
    cases z : P.fns[f]? with
    | none => trivial
    | some d =>
      dsimp only
      split
      · rename_i c
        rw [if_pos (by rw [← r.len]; exact c)]
        have dv := q.dv d (List.mem_of_getElem? z)
        have dvp : plainVs (d.dv.drop (as.length + d.dv.length - d.np)) = true := plainVs_all.mpr fun v hv => plainVs_all.mp dv v (List.mem_of_mem_drop hv)
        obtain ⟨S, no⟩ := start_ok (n := d.ns - d.np) (r.append (ArgsR.plain (k := k) (h := h) dvp))
        have R : CR ⟨P.mut_, P.nst⟩ { run := run P n, gl := P.gl, cls := P.cls, mut_ := P.mut_, nst := P.nst, wl := P.wl } { run := Dl.run Pv n, gl := Pv.gl, cls := Pv.cls, wl := Pv.wl } := ⟨q.gl, q.pl, q.cls, rfl, rfl, q.wl, q.wlv, fun f as O k h vs I r => run_ok q n f as O k h vs I r⟩
        have w := simB d.body R (by trivial) I S
        have kk : kb k (as ++ (d.dv.drop (as.length + d.dv.length - d.np)).map (fun v => .sh (dOf v)) ++ List.replicate (d.ns - d.np) .no) ((vs ++ d.dv.drop (as.length + d.dv.length - d.np)).map some ++ List.replicate (d.ns - d.np) none) = k := funext fun a => kb_not fun ⟨i, o⟩ => no i a o
        have e1 : begin_ d as = as ++ (d.dv.drop (as.length + d.dv.length - d.np)).map (fun v => .sh (dOf v)) ++ List.replicate (d.ns - d.np) .no := rfl
        have e2 : Dl.begin_ d vs = (vs ++ d.dv.drop (as.length + d.dv.length - d.np)).map some ++ List.replicate (d.ns - d.np) none := by unfold Dl.begin_; rw [← r.len]
        rw [e1, e2]
        revert w
        generalize exB _ d.body _ O = res
        generalize Dl.exB _ d.body _ h = resv
        intro w
        cases res with
        | nx s' O' =>
          obtain ⟨sv', h', k', rfl, w1, w2, _⟩ := w
          rw [kk] at w1
          exact ⟨.non, h', k', rfl, w1, w2, Rep.non⟩
        | rt d' fl O' =>
          obtain ⟨v, h', k', rfl, w1, w2, w3, _⟩ := w
          rw [kk] at w1 w3
          exact ⟨v, h', k', rfl, w1, w2, w3⟩
        | exc c fs s' O' =>
          obtain ⟨v, sv', h', k', rfl, w1, w2, _, _, w3⟩ := w
          rw [kk] at w1
          exact ⟨v, h', k', rfl, w1, w2, w3⟩
        | bad => trivial
      · trivial
theorem reps_ints : ∀ ns : List Int, Reps k h (ns.map D.int) (ns.map Va.int)
  | [] => .nil
  | n :: ns => .cons (.int n) (reps_ints ns)
theorem law_of (q : PR P Pv) {kk li : Nat} {ns : List Int} {fl : Fl} {O : Os} (e : run P kk li [.sh (.rl (ns.map .int))] [] = .ok (.bl true) fl O) : ∃ h', Dl.run Pv kk li [.rl (ns.map .int)] [] = .ok (.bl true) h' := by
  have I : Inv ⟨P.mut_, P.nst⟩ (fun _ => .no) [] [] := ⟨fun n z => absurd rfl z, fun _ _ _ z => (by cases z), fun _ _ _ _ z => (by cases z), fun _ _ _ _ _ z => (by cases z), fun _ _ _ z => (by cases z), fun _ _ _ _ z => (by cases z), fun _ _ z => (by cases z), fun _ _ _ z => (by cases z), fun _ _ _ _ z => (by cases z)⟩
  have w := run_ok q kk li [.sh (.rl (ns.map .int))] [] _ [] [.rl (ns.map .int)] I (.cons (x := .sh (.rl (ns.map .int))) (.rl (reps_ints ns)) .nil)
  rw [e] at w
  obtain ⟨v, h', k', w1, _, _, w4⟩ := w
  rw [(w4.rep rfl).vw.bl] at w1
  exact ⟨h', w1⟩
end
end Pu
set_option Elab.async false
set_option linter.all false
set_option maxRecDepth 100000
set_option maxHeartbeats 4000000
/-! The tree reading's steps, one equation each. -/
namespace Pu
open PySem (Str sizeLine PyData)
open Dl (Va Ex Sm Tg Bop Cop Bi Bm Tyk Fn)
section
variable {C : Cfg} {s : Slots} {O : Os}
theorem e_v {i : Nat} : evE C (.v i) s O = match s[i]? with
    | some (.sh d) => .ok d .shr O
    | some (.bx j f) => .ok (.box j f) (.hf j f) O
    | some (.ow d) => .ok d .ho O
    | some (.bo d) => .ok d .hb O
    | _ => .bad := by
  conv => lhs; unfold evE
  try rfl
theorem e_k {c : Va} : evE C (.k c) s O = match kOf c with
    | some d => .ok d .shr O
    | none => .bad := by
  conv => lhs; unfold evE
  try rfl
theorem e_g {i : Nat} : evE C (.g i) s O = match C.gl[i]? with
    | some v => .ok (dOf v) .shr O
    | none => .bad := by
  conv => lhs; unfold evE
  try rfl
theorem e_tup {es : List Ex} : evE C (.tup es) s O = (evL C es s O).bind fun l O => match allShr l with
    | some ds => .ok (.tup ds) .shr O
    | none => .bad := by
  conv => lhs; unfold evE
  try rfl
theorem e_lst {es : List Ex} : evE C (.lst es) s O = (evL C es s O).bind fun l O => match allShr l with
    | some ds => .ok (.lst ds) .fr O
    | none => .bad := by
  conv => lhs; unfold evE
  try rfl
theorem e_dct0  : evE C (.dct0) s O = .ok (.dct []) .fr O := by
  conv => lhs; unfold evE
  try rfl
theorem e_bin {o : Bop} {a b : Ex} : evE C (.bin o a b) s O = (evE C a s O).bind fun x fx O => (evE C b s O).bind fun y fy O => .of O (binop o (cur O x fx) (cur O y fy)) := by
  conv => lhs; unfold evE
  try rfl
theorem e_neg {a : Ex} : evE C (.neg a) s O = (evE C a s O).bind fun x _ O => match x with
    | .int i => .ok (.int (-i)) .shr O
    | _ => .bad := by
  conv => lhs; unfold evE
  try rfl
theorem e_nt {a : Ex} : evE C (.nt a) s O = (evE C a s O).bind fun x fx O => match truthy (cur O x fx) with
    | some b => .ok (.bl (!b)) .shr O
    | none => .bad := by
  conv => lhs; unfold evE
  try rfl
theorem e_an {es : List Ex} : evE C (.an es) s O = evA C es s O := by
  conv => lhs; unfold evE
  try rfl
theorem e_or {es : List Ex} : evE C (.or es) s O = evO C es s O := by
  conv => lhs; unfold evE
  try rfl
theorem e_cmp {o : Cop} {a b : Ex} : evE C (.cmp o a b) s O = (evE C a s O).bind fun x fx O => (evE C b s O).bind fun y fy O => match cmpo C.gl o (cur O x fx) (cur O y fy) with
    | some c => .ok (.bl c) .shr O
    | none => .bad := by
  conv => lhs; unfold evE
  try rfl
theorem e_cmp2 {o p : Cop} {a b c : Ex} : evE C (.cmp2 o p a b c) s O = (evE C a s O).bind fun x fx O => (evE C b s O).bind fun y fy O => match cmpo C.gl o (cur O x fx) (cur O y fy) with
    | some true => (evE C c s O).bind fun z fz O => match cmpo C.gl p (cur O y fy) (cur O z fz) with
      | some c => .ok (.bl c) .shr O
      | none => .bad
    | some false => .ok (.bl false) .shr O
    | none => .bad := by
  conv => lhs; unfold evE
  try rfl
theorem e_call {f : Nat} {es : List Ex} : evE C (.call f es) s O = (evL C es s O).bind fun l O => match toArgs l with
    | some as => C.run f as O
    | none => .bad := by
  conv => lhs; unfold evE
  try rfl
theorem e_mk {c : Nat} {es : List Ex} : evE C (.mk c es) s O = (evL C es s O).bind fun l O => match toArgs l with
    | some as => match C.cls[c]? with
      | some k => match k.init with
        | some f => (C.run f (.sh (.obj O.length) :: as) (O ++ [⟨c, []⟩])).bind fun v _ O' => if isN v then .ok (.obj O.length) .shr O' else .bad
        | none => .bad
      | none => .bad
    | none => .bad := by
  conv => lhs; unfold evE
  try rfl
theorem e_meth {m : Nat} {o : Ex} {es : List Ex} : evE C (.meth m o es) s O = (evE C o s O).bind fun x _ O => match x with
    | .obj n => match O[n]? with
      | some oj => match C.cls[oj.c]? with
        | some k => match k.meths.lookup m with
          | some f => (evL C es s O).bind fun l O => match toArgs l with
            | some as => C.run f (.sh (.obj n) :: as) O
            | none => .bad
          | none => .bad
        | none => .bad
      | none => .bad
    | _ => .bad := by
  conv => lhs; unfold evE
  try rfl
theorem e_bi {b : Bi} {es : List Ex} : evE C (.bi b es) s O = (evL C es s O).bind fun l O => .of O (bfn b (curs O l)) := by
  conv => lhs; unfold evE
  try rfl
theorem e_fld {o : Ex} {f : Nat} : evE C (.fld o f) s O = (evE C o s O).bind fun x _ O => match x with
    | .obj n => match fldOf O n f with
      | some v => if C.mut_ f then .ok (.box n f) (.hf n f) O else .ok v .shr O
      | none => .bad
    | .hx => match C.hd with
      | some (_, v :: _) => .ok v .shr O
      | _ => .bad
    | _ => .bad := by
  conv => lhs; unfold evE
  try rfl
theorem e_ix {a b : Ex} : evE C (.ix a b) s O = (evE C a s O).bind fun x fx O => (evE C b s O).bind fun y fy O => if nsts C fx then (match item C.gl (cur O x fx) (cur O y fy) with
      | some (.own _) => (match fx, keyOf (cur O y fy) with
        | .hf i f, some k => .ok (.box i f) (.hk i f k) O
        | _, _ => .bad)
      | _ => .bad) else match item C.gl (cur O x fx) (cur O y fy) with
      | some v => .ok v .shr O
      | none => .bad := by
  conv => lhs; unfold evE
  try rfl
theorem e_sl {a : Ex} {lo hi : Option Ex} : evE C (.sl a lo hi) s O = (evE C a s O).bind fun x fx O => evP C lo s O fun i O => evP C hi s O fun j O => .of O (slc (cur O x fx) i j) := by
  conv => lhs; unfold evE
  try rfl
theorem e_ife {c a b : Ex} : evE C (.ife c a b) s O = (evE C c s O).bind fun x fx O => match truthy (cur O x fx) with
    | some true => evE C a s O
    | some false => evE C b s O
    | none => .bad := by
  conv => lhs; unfold evE
  try rfl
theorem e_isx {a : Ex} {c : Nat} : evE C (.isx a c) s O = (evE C a s O).bind fun x _ O => match x with
    | .hx => match C.hd with
      | some (d, _) => match C.cls[d]? with
        | some k => .ok (.bl (decide (c ∈ k.up))) .shr O
        | none => .bad
      | none => .bad
    | _ => .bad := by
  conv => lhs; unfold evE
  try rfl
theorem e_dl {b : Bm} {o : Ex} : evE C (.dl b o) s O = (evE C o s O).bind fun x fx O => match dlf b (cur O x fx) with
    | some d => .ok d .fr O
    | none => .bad := by
  conv => lhs; unfold evE
  try rfl
theorem x_asg {t : Tg} {e : Ex} : exS C (.asg t e) s O = (evE C e s O).thn s fun v fv O => match asn t v fv s with
    | some s' => .nx s' O
    | none => .bad := by
  conv => lhs; unfold exS
  try rfl
theorem x_par {i j : Nat} {a b : Ex} : exS C (.par i j a b) s O = (evE C a s O).thn s fun v fv O => (evE C b s O).thn s fun w fw O => match asn (.nm i) v fv s with
    | some s1 => match asn (.nm j) w fw s1 with
      | some s2 => .nx s2 O
      | none => .bad
    | none => .bad := by
  conv => lhs; unfold exS
  try rfl
theorem x_fld {o e : Ex} {f : Nat} : exS C (.fld o f e) s O = (evE C e s O).thn s fun v fv O => (evE C o s O).thn s fun x _ O => match x with
    | .obj n => match O[n]? with
      | some oj => match C.cls[oj.c]? with
        | some k => if oj.fs.length < 1000 ∧ f ∈ k.flds ∧ (if C.mut_ f then isFr fv && (lkF f oj.fs).isNone else fv.free) = true then .nx s (O.set n ⟨oj.c, putF f v oj.fs⟩) else .bad
        | none => .bad
      | none => .bad
    | _ => .bad := by
  conv => lhs; unfold exS
  try rfl
theorem x_sub {o i e : Ex} : exS C (.sub o i e) s O = (evE C e s O).thn s fun v fv O => (evE C o s O).thn s fun x fx O => (evE C i s O).thn s fun k fk O =>
    if nsts C fx then putNst C s O fx v fv (keyOf (cur O k fk)) else if fv.free && !isOwn v then putAt C s O o x fx (subU C.gl (keyOf (cur O k fk)) v) else .bad := by
  conv => lhs; unfold exS
  try rfl
theorem x_retN  : exS C (.retN) s O = .rt .non .shr O := by
  conv => lhs; unfold exS
  try rfl
theorem x_pass  : exS C (.pass) s O = .nx s O := by
  conv => lhs; unfold exS
  try rfl
theorem x_ite {c : Ex} {a b : List Sm} : exS C (.ite c a b) s O = (evE C c s O).thn s fun v fv O => match truthy (cur O v fv) with
    | some true => exB C a s O
    | some false => exB C b s O
    | none => .bad := by
  conv => lhs; unfold exS
  try rfl
theorem x_rse {c : Nat} {es : List Ex} : exS C (.rse c es) s O = (evL C es s O).thn s fun l O => match allShr l with
    | some ds => .exc c ds s O
    | none => .bad := by
  conv => lhs; unfold exS
  try rfl
theorem x_try {b : List Sm} {hs : List (Nat × Option Nat × List Sm)} : exS C (.try_ b hs) s O = match exB C b s O with
    | .exc c fs s O => exH C hs c fs s O
    | r => r := by
  conv => lhs; unfold exS
  try rfl
theorem x_tryn {b : List Sm} : exS C (.tryn b) s O = match exB C b s O with
    | .exc .. => .bad
    | r => r := by
  conv => lhs; unfold exS
  try rfl
theorem x_frz {l : List Nat} : exS C (.frz l) s O = .nx (frzS s l) O := by
  conv => lhs; unfold exS
  try rfl
/-- a statement that is a value alone -/
theorem x_ex {e : Ex} (h : ∀ b o es, e ≠ .bm b o es) : exS C (.ex e) s O = (evE C e s O).thn s fun _ _ O => .nx s O := by
  conv => lhs; unfold exS
  cases e <;> first | rfl | exact absurd rfl (h _ _ _)
theorem x_exC {f : Nat} {es : List Ex} : exS C (.ex (.call f es)) s O = (evE C (.call f es) s O).thn s fun _ _ O => .nx s O := x_ex fun _ _ _ z => by cases z
theorem x_exM {f : Nat} {o : Ex} {es : List Ex} : exS C (.ex (.meth f o es)) s O = (evE C (.meth f o es) s O).thn s fun _ _ O => .nx s O := x_ex fun _ _ _ z => by cases z
theorem x_bm {b : Bm} {o : Ex} {es : List Ex} : exS C (.ex (.bm b o es)) s O = (evE C o s O).thn s fun x fx O => if bmT b (cur O x fx) then (evL C es s O).thn s fun l O => (match allShr l with
      | some vs => putAt C s O o x fx fun d => bmf b d vs
      | none => .bad) else .bad := by
  conv => lhs; unfold exS
  all_goals rfl
theorem x_retV {i : Nat} : exS C (.ret (.v i)) s O = match s[i]? with
      | some (.sh d) => .rt d .shr O
      | some (.ow d) => .rt d .fr O
      | _ => .bad := by
  conv => lhs; unfold exS
  all_goals rfl
theorem x_ret {e : Ex} (h : ∀ i, e ≠ .v i) : exS C (.ret e) s O = (evE C e s O).thn s fun v fv O => if fv.free then .rt v fv O else .bad := by
  conv => lhs; unfold exS
  cases e <;> first | rfl | exact absurd rfl (h _)
theorem b_nil : exB C [] s O = .nx s O := by unfold exB; rfl
theorem b_cons {st : Sm} {r : List Sm} : exB C (st :: r) s O = (exS C st s O).seq fun s O => exB C r s O := by conv => lhs; unfold exB
theorem l_nil : evL C [] s O = .ok [] O := by unfold evL; rfl
theorem l_cons {e : Ex} {es : List Ex} : evL C (e :: es) s O = (evE C e s O).bindl fun v f O => match evL C es s O with
    | .ok vs O => .ok ((v, frz1 f) :: vs) O
    | .exc c fs O => .exc c fs O
    | .bad => .bad := by
  conv => lhs; unfold evL
  all_goals rfl
theorem a_one {e : Ex} : evA C [e] s O = evE C e s O := by unfold evA; rfl
theorem a_cons {e f : Ex} {es : List Ex} : evA C (e :: f :: es) s O = (evE C e s O).bind fun x fx O => match truthy (cur O x fx) with
    | some true => evA C (f :: es) s O
    | some false => .ok x fx O
    | none => .bad := by
  conv => lhs; unfold evA
  all_goals rfl
theorem o_one {e : Ex} : evO C [e] s O = evE C e s O := by unfold evO; rfl
theorem o_cons {e f : Ex} {es : List Ex} : evO C (e :: f :: es) s O = (evE C e s O).bind fun x fx O => match truthy (cur O x fx) with
    | some false => evO C (f :: es) s O
    | some true => .ok x fx O
    | none => .bad := by
  conv => lhs; unfold evO
  all_goals rfl
theorem p_none {f : Option Int → Os → R} : evP C none s O f = f none O := by unfold evP; rfl
theorem p_some {e : Ex} {f : Option Int → Os → R} : evP C (some e) s O f = (evE C e s O).bind fun v _ O => match v with
    | .int i => f (some i) O
    | _ => .bad := by
  conv => lhs; unfold evP
  all_goals rfl
theorem c_none : evC C none s O = some (true, O) := by unfold evC; rfl
theorem c_some {c : Ex} : evC C (some c) s O = match evE C c s O with
    | .ok b fb O => (truthy (cur O b fb)).map fun k => (k, O)
    | _ => none := by
  conv => lhs; unfold evC
  all_goals rfl
end
/-! a return's forms -/
theorem r_k {C : Cfg} {s : Slots} {O : Os} {c : Va} : exS C (.ret (.k c)) s O = (evE C (.k c) s O).thn s fun v fv O => if fv.free then .rt v fv O else .bad := x_ret fun _ z => by cases z
theorem r_tup {C : Cfg} {s : Slots} {O : Os} {es : List Ex} : exS C (.ret (.tup es)) s O = (evE C (.tup es) s O).thn s fun v fv O => if fv.free then .rt v fv O else .bad := x_ret fun _ z => by cases z
theorem r_lst {C : Cfg} {s : Slots} {O : Os} {es : List Ex} : exS C (.ret (.lst es)) s O = (evE C (.lst es) s O).thn s fun v fv O => if fv.free then .rt v fv O else .bad := x_ret fun _ z => by cases z
theorem r_bin {C : Cfg} {s : Slots} {O : Os} {o : Bop} {a b : Ex} : exS C (.ret (.bin o a b)) s O = (evE C (.bin o a b) s O).thn s fun v fv O => if fv.free then .rt v fv O else .bad := x_ret fun _ z => by cases z
theorem r_neg {C : Cfg} {s : Slots} {O : Os} {a : Ex} : exS C (.ret (.neg a)) s O = (evE C (.neg a) s O).thn s fun v fv O => if fv.free then .rt v fv O else .bad := x_ret fun _ z => by cases z
theorem r_nt {C : Cfg} {s : Slots} {O : Os} {a : Ex} : exS C (.ret (.nt a)) s O = (evE C (.nt a) s O).thn s fun v fv O => if fv.free then .rt v fv O else .bad := x_ret fun _ z => by cases z
theorem r_an {C : Cfg} {s : Slots} {O : Os} {es : List Ex} : exS C (.ret (.an es)) s O = (evE C (.an es) s O).thn s fun v fv O => if fv.free then .rt v fv O else .bad := x_ret fun _ z => by cases z
theorem r_or {C : Cfg} {s : Slots} {O : Os} {es : List Ex} : exS C (.ret (.or es)) s O = (evE C (.or es) s O).thn s fun v fv O => if fv.free then .rt v fv O else .bad := x_ret fun _ z => by cases z
theorem r_cmp {C : Cfg} {s : Slots} {O : Os} {o : Cop} {a b : Ex} : exS C (.ret (.cmp o a b)) s O = (evE C (.cmp o a b) s O).thn s fun v fv O => if fv.free then .rt v fv O else .bad := x_ret fun _ z => by cases z
theorem r_cmp2 {C : Cfg} {s : Slots} {O : Os} {o p : Cop} {a b c : Ex} : exS C (.ret (.cmp2 o p a b c)) s O = (evE C (.cmp2 o p a b c) s O).thn s fun v fv O => if fv.free then .rt v fv O else .bad := x_ret fun _ z => by cases z
theorem r_call {C : Cfg} {s : Slots} {O : Os} {f : Nat} {es : List Ex} : exS C (.ret (.call f es)) s O = (evE C (.call f es) s O).thn s fun v fv O => if fv.free then .rt v fv O else .bad := x_ret fun _ z => by cases z
theorem r_mk {C : Cfg} {s : Slots} {O : Os} {c : Nat} {es : List Ex} : exS C (.ret (.mk c es)) s O = (evE C (.mk c es) s O).thn s fun v fv O => if fv.free then .rt v fv O else .bad := x_ret fun _ z => by cases z
theorem r_meth {C : Cfg} {s : Slots} {O : Os} {m : Nat} {o : Ex} {es : List Ex} : exS C (.ret (.meth m o es)) s O = (evE C (.meth m o es) s O).thn s fun v fv O => if fv.free then .rt v fv O else .bad := x_ret fun _ z => by cases z
theorem r_bi {C : Cfg} {s : Slots} {O : Os} {b : Bi} {es : List Ex} : exS C (.ret (.bi b es)) s O = (evE C (.bi b es) s O).thn s fun v fv O => if fv.free then .rt v fv O else .bad := x_ret fun _ z => by cases z
theorem r_ix {C : Cfg} {s : Slots} {O : Os} {a b : Ex} : exS C (.ret (.ix a b)) s O = (evE C (.ix a b) s O).thn s fun v fv O => if fv.free then .rt v fv O else .bad := x_ret fun _ z => by cases z
theorem r_sl {C : Cfg} {s : Slots} {O : Os} {a : Ex} {lo hi : Option Ex} : exS C (.ret (.sl a lo hi)) s O = (evE C (.sl a lo hi) s O).thn s fun v fv O => if fv.free then .rt v fv O else .bad := x_ret fun _ z => by cases z
theorem r_ife {C : Cfg} {s : Slots} {O : Os} {c a b : Ex} : exS C (.ret (.ife c a b)) s O = (evE C (.ife c a b) s O).thn s fun v fv O => if fv.free then .rt v fv O else .bad := x_ret fun _ z => by cases z
theorem r_g {C : Cfg} {s : Slots} {O : Os} {i : Nat} : exS C (.ret (.g i)) s O = (evE C (.g i) s O).thn s fun v fv O => if fv.free then .rt v fv O else .bad := x_ret fun _ z => by cases z
theorem r_fld {C : Cfg} {s : Slots} {O : Os} {o : Ex} {f : Nat} : exS C (.ret (.fld o f)) s O = (evE C (.fld o f) s O).thn s fun v fv O => if fv.free then .rt v fv O else .bad := x_ret fun _ z => by cases z
theorem r_comp {C : Cfg} {s : Slots} {O : Os} {elt : Ex} {t : Tg} {it : Ex} {cond : Option Ex} {own : List Nat} : exS C (.ret (.comp elt t it cond own)) s O = (evE C (.comp elt t it cond own) s O).thn s fun v fv O => if fv.free then .rt v fv O else .bad := x_ret fun _ z => by cases z
theorem r_compR {C : Cfg} {s : Slots} {O : Os} {elt : Ex} {t : Tg} {es : List Ex} {cond : Option Ex} {own : List Nat} : exS C (.ret (.compR elt t es cond own)) s O = (evE C (.compR elt t es cond own) s O).thn s fun v fv O => if fv.free then .rt v fv O else .bad := x_ret fun _ z => by cases z
theorem r_dl {C : Cfg} {s : Slots} {O : Os} {b : Bm} {o : Ex} : exS C (.ret (.dl b o)) s O = (evE C (.dl b o) s O).thn s fun v fv O => if fv.free then .rt v fv O else .bad := x_ret fun _ z => by cases z
theorem r_dct0 {C : Cfg} {s : Slots} {O : Os}  : exS C (.ret (.dct0)) s O = (evE C (.dct0) s O).thn s fun v fv O => if fv.free then .rt v fv O else .bad := x_ret fun _ z => by cases z
section
variable {s : Slots} {O : Os} {d : D} {fl : Fl} {c : Nat} {fs : List D} {l : List (D × Fl)}
theorem bi_ok {f : D → Fl → Os → R} : (R.ok d fl O).bind f = f d fl O := id rfl
theorem bi_exc {f : D → Fl → Os → R} : (R.exc c fs O).bind f = .exc c fs O := id rfl
theorem bi_bad {f : D → Fl → Os → R} : R.bad.bind f = .bad := id rfl
theorem bl_ok {f : D → Fl → Os → Rl} : (R.ok d fl O).bindl f = f d fl O := id rfl
theorem bl_exc {f : D → Fl → Os → Rl} : (R.exc c fs O).bindl f = .exc c fs O := id rfl
theorem lb_ok {f : List (D × Fl) → Os → R} : (Rl.ok l O).bind f = f l O := id rfl
theorem lb_exc {f : List (D × Fl) → Os → R} : (Rl.exc c fs O).bind f = .exc c fs O := id rfl
theorem th_ok {f : D → Fl → Os → Rs} : (R.ok d fl O).thn s f = f d fl O := id rfl
theorem th_exc {f : D → Fl → Os → Rs} : (R.exc c fs O).thn s f = .exc c fs s O := id rfl
theorem lt_ok {f : List (D × Fl) → Os → Rs} : (Rl.ok l O).thn s f = f l O := id rfl
theorem lt_exc {f : List (D × Fl) → Os → Rs} : (Rl.exc c fs O).thn s f = .exc c fs s O := id rfl
theorem se_nx {f : Slots → Os → Rs} : (Rs.nx s O).seq f = f s O := id rfl
theorem se_rt {f : Slots → Os → Rs} : (Rs.rt d fl O).seq f = .rt d fl O := id rfl
theorem se_exc {f : Slots → Os → Rs} : (Rs.exc c fs s O).seq f = .exc c fs s O := id rfl
theorem en_nx : (Rs.nx s O).end_ = .ok .non .shr O := id rfl
theorem en_rt : (Rs.rt d fl O).end_ = .ok d fl O := id rfl
theorem en_exc : (Rs.exc c fs s O).end_ = .exc c fs O := id rfl
theorem op_ok (h : fl.free = true) : (R.ok d fl O).opt = some (d, O) := by
  unfold R.opt
  dsimp only
  rw [if_pos h]
theorem op_shr : (R.ok d .shr O).opt = some (d, O) := op_ok rfl
theorem op_fr : (R.ok d .fr O).opt = some (d, O) := op_ok rfl
theorem of_t : R.of O (some (d, true)) = .ok d .fr O := id rfl
theorem of_f : R.of O (some (d, false)) = .ok d .shr O := id rfl
end
section
variable {C : Cfg} {s : Slots} {O : Os} {d : D} {fl : Fl} {l : List (D × Fl)}
theorem cur_shr : cur O d .shr = d := rfl
theorem cur_fr : cur O d .fr = d := rfl
theorem cur_ho : cur O d .ho = d := rfl
theorem cur_hb : cur O d .hb = d := rfl
theorem cur_hf {i f : Nat} : cur O d (.hf i f) = (fldOf O i f).getD .hx := rfl
theorem curs_nil : curs O [] = [] := rfl
theorem curs_cons : curs O ((d, fl) :: l) = cur O d fl :: curs O l := rfl
theorem sh_nil : allShr [] = some [] := rfl
theorem sh_cons (h : fl.free = true) : allShr ((d, fl) :: l) = (allShr l).map (d :: ·) := by
  unfold allShr
  simp only [List.all_cons, h, Bool.true_and, List.map_cons]
  split <;> rfl
theorem sh_shr : allShr ((d, .shr) :: l) = (allShr l).map (d :: ·) := sh_cons rfl
theorem ta_nil : toArgs [] = some [] := rfl
theorem ta_cons {a : Sl} (h : toArg (d, fl) = some a) : toArgs ((d, fl) :: l) = (toArgs l).map (a :: ·) := by
  unfold toArgs
  rw [List.map_cons, h]
  have : ∀ xs : List (Option Sl), Dl.allO (some a :: xs) = (Dl.allO xs).map (a :: ·) := fun xs => by
    conv => lhs; unfold Dl.allO
    cases Dl.allO xs <;> rfl
  exact this _
theorem ta_shr : toArgs ((d, .shr) :: l) = (toArgs l).map (.sh d :: ·) := ta_cons rfl
theorem ta_ho : toArgs ((d, .ho) :: l) = (toArgs l).map (.bo d :: ·) := ta_cons rfl
theorem ta_hb : toArgs ((d, .hb) :: l) = (toArgs l).map (.bo d :: ·) := ta_cons rfl
theorem ta_hf {i f : Nat} : toArgs ((d, .hf i f) :: l) = (toArgs l).map (.bx i f :: ·) := ta_cons rfl
theorem t_bl {b : Bool} : truthy (.bl b) = some b := rfl
end
section
variable {α : Type} {a b c d e : α} {l : List α}
theorem i_0 : Dl.atI (a :: l) 0 = some a := by
  unfold Dl.atI Dl.ixN
  simp
theorem i_1 : Dl.atI (a :: b :: l) 1 = some b := by
  unfold Dl.atI Dl.ixN
  rw [if_pos (by decide), if_pos (by simp only [List.length_cons]; omega)]
  rfl
theorem i_2 : Dl.atI (a :: b :: c :: l) 2 = some c := by
  unfold Dl.atI Dl.ixN
  rw [if_pos (by decide), if_pos (by simp only [List.length_cons]; omega)]
  rfl
theorem i_3 : Dl.atI (a :: b :: c :: d :: l) 3 = some d := by
  unfold Dl.atI Dl.ixN
  rw [if_pos (by decide), if_pos (by simp only [List.length_cons]; omega)]
  rfl
theorem i_4 : Dl.atI (a :: b :: c :: d :: e :: l) 4 = some e := by
  unfold Dl.atI Dl.ixN
  rw [if_pos (by decide), if_pos (by simp only [List.length_cons]; omega)]
  rfl
theorem i_nat {i : Nat} : Dl.atI l (i : Int) = l[i]? := by
  unfold Dl.atI Dl.ixN
  rw [if_pos (by omega)]
  by_cases c : i < l.length
  · rw [if_pos (by omega)]
    simp
  · rw [if_neg (by omega)]
    simp
    omega
theorem i_of {i : Int} (h : 0 ≤ i) : Dl.atI l i = l[i.toNat]? := by
  obtain ⟨n, rfl⟩ := Int.eq_ofNat_of_zero_le h
  rw [i_nat]
  rfl
end
theorem bo_add {a b : Int} : binop .add (.int a) (.int b) = some (.int (a + b), false) := rfl
theorem bo_sub {a b : Int} : binop .sub (.int a) (.int b) = some (.int (a - b), false) := rfl
theorem bo_mul {a b : Int} (e : a.natAbs.log2 + b.natAbs.log2 < 1000000) : binop .mul (.int a) (.int b) = some (.int (a * b), false) := if_pos e
theorem bo_mod {a b : Int} (e : b ≠ 0) : binop .mod (.int a) (.int b) = some (.int (a.fmod b), false) := if_pos e
theorem bo_fdiv {a b : Int} (e : b ≠ 0 ∧ b.natAbs.log2 < 9000) : binop .fdiv (.int a) (.int b) = some (.int (a.fdiv b), false) := if_pos e
theorem bo_pow {a b : Int} (e : 0 ≤ b ∧ b ≤ 1000000 ∧ a.natAbs < 2 ^ 64) : binop .pow (.int a) (.int b) = some (.int (a ^ b.toNat), false) := if_pos e
theorem bo_str {a b : Str} (e : a.length + b.length ≤ sizeLine) : binop .add (.str a) (.str b) = some (.str (a ++ b), false) := if_pos e
theorem bo_tup {a b : List D} (e : a ≠ [] ∧ b ≠ [] ∧ a.length + b.length ≤ sizeLine) : binop .add (.tup a) (.tup b) = some (.tup (a ++ b), false) := if_pos e
theorem bo_lst {a b : List D} (e : a.length + b.length ≤ sizeLine) : binop .add (.lst a) (.lst b) = some (.lst (a ++ b), true) := if_pos e
theorem rng_nat {n : Nat} (e : n < 1000000) : rngI [.int (n : Int)] = some (rangeI 0 n) := by
  unfold rngI
  dsimp only
  rw [if_pos ⟨by omega, by omega⟩]
  simp
theorem rng_one {a : Int} (ha : 0 ≤ a ∧ a < 1000000) : rngI [.int a] = some (rangeI 0 a.toNat) := by
  unfold rngI
  dsimp only
  rw [if_pos ⟨by omega, by omega⟩]
theorem rng_two {a b : Int} (ha : 0 ≤ a ∧ a < 1000000) (hb : 0 ≤ b ∧ b < 1000000) : rngI [.int a, .int b] = some (rangeI a (b - a).toNat) := by
  unfold rngI
  dsimp only
  rw [if_pos ⟨⟨by omega, by omega⟩, by omega, by omega⟩]
theorem rangeI_len {lo : Int} {n : Nat} : (rangeI lo n).length = n := by
  induction n generalizing lo with
  | zero => rfl
  | succ n ih => unfold rangeI; rw [List.length_cons, ih]
theorem rangeI_get {lo : Int} {n i : Nat} (h : i < n) : (rangeI lo n)[i]? = some (.int (lo + i)) := by
  induction n generalizing lo i with
  | zero => omega
  | succ n ih =>
    unfold rangeI
    cases i with
    | zero => simp
    | succ i => rw [List.getElem?_cons_succ, ih (by omega)]; congr 2; omega
theorem rangeI_eq {n : Nat} : ∀ {lo : Int}, rangeI lo n = (List.range n).map fun i => .int (lo + i) := by
  intro lo
  apply List.ext_getElem?
  intro i
  by_cases c : i < n
  · rw [rangeI_get c]
    simp [c]
  · rw [List.getElem?_eq_none (by rw [rangeI_len]; omega), List.getElem?_eq_none (by simp; omega)]
theorem rangeI_split {lo : Int} {n : Nat} {p q : List D} {x : D} (e : rangeI lo n = p ++ x :: q) : x = .int (lo + p.length) ∧ p.length < n := by
  have lt : p.length < n := by
    have := congrArg List.length e
    rw [rangeI_len] at this
    simp at this
    omega
  refine ⟨?_, lt⟩
  have g := rangeI_get (lo := lo) lt
  rw [e, List.getElem?_append_right (Nat.le_refl _)] at g
  simpa using g
theorem mul_small {a b : Int} {n m : Nat} (ha : a.natAbs < 2 ^ n) (hb : b.natAbs < 2 ^ m) (h : n + m < 1000000) : a.natAbs.log2 + b.natAbs.log2 < 1000000 := by
  have key : ∀ {x k : Nat}, x < 2 ^ k → x.log2 ≤ k := fun {x k} h => by
    by_cases c : x = 0
    · subst c; simp
    · have := (Nat.log2_lt c).mpr h
      omega
  have := key ha
  have := key hb
  omega
theorem putAt_ho {C : Cfg} {s : Slots} {O : Os} {j : Nat} {x : D} {u : D → Option D} : putAt C s O (.v j) x .ho u = match u x with
  | some d' => .nx (s.set j (.ow d')) O
  | none => .bad := rfl
theorem putAt_fr {C : Cfg} {s : Slots} {O : Os} {o : Ex} {x : D} {u : D → Option D} : putAt C s O o x .fr u = match u x with
  | some _ => .nx s O
  | none => .bad := rfl
theorem putAt_hf {C : Cfg} {s : Slots} {O : Os} {o : Ex} {x : D} {i f : Nat} {u : D → Option D} : putAt C s O o x (.hf i f) u = if C.nst f then .bad else match O[i]? with
    | some oj => match lkF f oj.fs with
      | some d => match u d with
        | some d' => .nx s (O.set i ⟨oj.c, putF f d' oj.fs⟩)
        | none => .bad
      | none => .bad
    | none => .bad := rfl
theorem subU_ok {gl : List Va} {k : Ky} {v : D} {l : List (Ky × D)} (h1 : kFit gl l k = true) (h2 : l.length < sizeLine) : subU gl (some k) v (.dct l) = some (.dct (dput l k v)) := by
  unfold subU
  dsimp only
  rw [if_pos ⟨h1, h2⟩]
theorem eq_ii {a b : Int} : eqq (.int a) (.int b) = some (decide (a = b)) := by
  unfold eqq plain2
  simp
theorem eq_ss {a b : Str} : eqq (.str a) (.str b) = some (decide (a = b)) := by
  unfold eqq plain2
  simp
theorem eq_bb {a b : Bool} : eqq (.bl a) (.bl b) = some (decide (a = b)) := by
  unfold eqq plain2
  simp
theorem eq_nn : eqq .non .non = some true := by
  unfold eqq plain2
  simp
theorem eq_is {a : Int} {b : Str} : eqq (.int a) (.str b) = some false := by
  unfold eqq plain2
  simp
theorem eq_si {a : Int} {b : Str} : eqq (.str b) (.int a) = some false := by
  unfold eqq plain2
  simp
theorem eq_ni {a : Int} : eqq .non (.int a) = some false := by
  unfold eqq plain2
  simp
theorem eq_in {a : Int} : eqq (.int a) .non = some false := by
  unfold eqq plain2
  simp
theorem eq_ns {a : Str} : eqq .non (.str a) = some false := by
  unfold eqq plain2
  simp
theorem eq_sn {a : Str} : eqq (.str a) .non = some false := by
  unfold eqq plain2
  simp
theorem eq_nb {a : Bool} : eqq .non (.bl a) = some false := by
  unfold eqq plain2
  simp
theorem eq_bn {a : Bool} : eqq (.bl a) .non = some false := by
  unfold eqq plain2
  simp
theorem eq_bs {a : Bool} {b : Str} : eqq (.bl a) (.str b) = some false := by
  unfold eqq plain2
  simp
theorem eq_sb {a : Bool} {b : Str} : eqq (.str b) (.bl a) = some false := by
  unfold eqq plain2
  simp
theorem bmf_app {l : List D} {x : D} (h : l.length < sizeLine) : bmf .append (.lst l) [x] = some (.lst (l ++ [x])) := if_pos h
theorem bmf_clr {l : List D} : bmf .clear (.lst l) [] = some (.lst []) := rfl
theorem bmf_clrD {l : List (Ky × D)} : bmf .clear (.dct l) [] = some (.dct []) := rfl
theorem bmf_rev {l : List D} : bmf .reverse (.lst l) [] = some (.lst l.reverse) := rfl
theorem nsts_ho {C : Cfg} : nsts C .ho = false := rfl
theorem nsts_fr {C : Cfg} : nsts C .fr = false := rfl
theorem nsts_shr {C : Cfg} : nsts C .shr = false := rfl
theorem nsts_hb {C : Cfg} : nsts C .hb = false := rfl
theorem nsts_hf {C : Cfg} {i f : Nat} : nsts C (.hf i f) = C.nst f := rfl
theorem mulS {a b : Int} (ha : a.natAbs < 2 ^ 200) (hb : b.natAbs < 2 ^ 200) : a.natAbs.log2 + b.natAbs.log2 < 1000000 := mul_small ha hb (by decide)
/-! ### steps put together -/
section
variable {C : Cfg} {s s1 : Slots} {O O1 : Os}
theorem b_nx {st : Sm} {r : List Sm} (e : exS C st s O = .nx s1 O1) : exB C (st :: r) s O = exB C r s1 O1 := by rw [b_cons, e]; rfl
theorem b_rt {st : Sm} {r : List Sm} {d : D} {fl : Fl} (e : exS C st s O = .rt d fl O1) : exB C (st :: r) s O = .rt d fl O1 := by rw [b_cons, e]; rfl
/-- a loop's turn -/
noncomputable def turnS (C : Cfg) (t : Tg) (b : List Sm) : D → Slots → Os → Rs := fun x s O => match asn t x .shr s with
  | some s' => exB C b s' O
  | none => .bad
theorem turn_of {t : Tg} {b : List Sm} {x : D} {r : Rs} (e : asn t x .shr s = some s1) (q : exB C b s1 O = r) : turnS C t b x s O = r := by
  unfold turnS
  rw [e]
  exact q
theorem turn_ap {t : Tg} {b : List Sm} {x : D} : turnS C t b x s O = match asn t x .shr s with
  | some s' => exB C b s' O
  | none => .bad := rfl
theorem x_fr {t : Tg} {it : Ex} {b : List Sm} {d : D} {fd : Fl} {l : List D} (e : evE C it s O = .ok d fd O1) (k : okIt it fd = true) (r : iter (cur O1 d fd) = some l) : exS C (.fr t it b) s O = goS (stay (cur O1 d fd) fd) (turnS C t b) l s O1 := by
  rw [exS_fr, e]
  dsimp only [R.thn]
  rw [if_pos k, r]
  rfl
theorem x_frR {t : Tg} {es : List Ex} {b : List Sm} {vs : List (D × Fl)} {l : List D} (e : evL C es s O = .ok vs O1) (r : rngI (curs O1 vs) = some l) : exS C (.frR t es b) s O = goS (fun _ => true) (turnS C t b) l s O1 := by
  conv => lhs; unfold exS
  rw [e]
  dsimp only [Rl.thn]
  rw [r]
  rfl
theorem e_comp {elt : Ex} {t : Tg} {it : Ex} {cond : Option Ex} {own : List Nat} {d : D} {fd : Fl} {l a : List D} {O2 : Os} (e : evE C it s O = .ok d fd O1) (r : iter (cur O1 d fd) = some l) (hl : l.length ≤ sizeLine) (g : goC (stay (cur O1 d fd) fd) (turnC C t cond elt own s) l [] O1 = .ok (a.map fun d => (d, .shr)) O2) :
    evE C (.comp elt t it cond own) s O = .ok (.lst a) .fr O2 := by
  rw [evE_comp, e]
  dsimp only [R.bind]
  rw [r]
  dsimp only
  rw [if_pos hl, g]
  dsimp only [Rl.bind]
  rw [List.map_map]
  congr 2
  exact List.map_id a
theorem e_compR {elt : Ex} {t : Tg} {es : List Ex} {cond : Option Ex} {own : List Nat} {vs : List (D × Fl)} {l a : List D} {O2 : Os} (e : evL C es s O = .ok vs O1) (r : rngI (curs O1 vs) = some l) (hl : l.length ≤ sizeLine) (g : goC (fun _ => true) (turnC C t cond elt own s) l [] O1 = .ok (a.map fun d => (d, .shr)) O2) :
    evE C (.compR elt t es cond own) s O = .ok (.lst a) .fr O2 := by
  rw [evE_compR, e]
  dsimp only [Rl.bind]
  rw [r]
  dsimp only
  rw [if_pos hl, g]
  dsimp only [Rl.bind]
  rw [List.map_map]
  congr 2
  exact List.map_id a
theorem turnC_ap {t : Tg} {cond : Option Ex} {elt : Ex} {own : List Nat} {x : D} : turnC C t cond elt own s x O = match asn t x .shr (wipeS s own) with
  | some s' => match evC C cond s' O with
    | some (true, O) => (evE C elt s' O).opt.map fun (v, O) => (some v, O)
    | some (false, O) => some (none, O)
    | none => none
  | none => none := rfl
theorem stay_shr {d : D} : stay d .shr = fun _ => true := rfl
theorem stay_fr {d : D} : stay d .fr = fun _ => true := rfl
theorem stay_ho {d : D} : stay d .ho = fun _ => true := rfl
theorem stay_hb {d : D} : stay d .hb = fun _ => true := rfl
theorem stay_hf {i f : Nat} {l : List D} (n : nls l = true) (e : fldOf O i f = some (.lst l)) : stay (.lst l) (.hf i f) O = true := by
  unfold stay
  dsimp only
  rw [n, e]
  simp
/-! ### loops -/
/-- a loop by an invariant over what has been gone through -/
theorem goS_inv {st : Os → Bool} {f : D → Slots → Os → Rs} (I : List D → Slots → Os → Prop) {l : List D} (h0 : I [] s O) (hst : ∀ p s O, I p s O → st O = true)
    (hf : ∀ p x q, l = p ++ x :: q → ∀ s O, I p s O → ∃ s' O', f x s O = .nx s' O' ∧ I (p ++ [x]) s' O') : ∃ s' O', goS st f l s O = .nx s' O' ∧ I l s' O' := by
  have key : ∀ (q p : List D) (s : Slots) (O : Os), l = p ++ q → I p s O → ∃ s' O', goS st f q s O = .nx s' O' ∧ I l s' O' := fun q => by
    induction q with
    | nil =>
      intro p s O e i
      rw [List.append_nil] at e
      subst e
      exact ⟨s, O, by unfold goS; rw [if_pos (hst _ _ _ i)], i⟩
    | cons x q ih =>
      intro p s O e i
      obtain ⟨s1, O1, e1, i1⟩ := hf p x q e s O i
      obtain ⟨s2, O2, e2, i2⟩ := ih (p ++ [x]) s1 O1 (by rw [e]; simp) i1
      exact ⟨s2, O2, by unfold goS; rw [if_pos (hst _ _ _ i), e1]; exact e2, i2⟩
  exact key l [] s O rfl h0
/-- a loop that may end in a return: what is gone through, or the value -/
theorem goS_ret {st : Os → Bool} {f : D → Slots → Os → Rs} (I : List D → Slots → Os → Prop) (Q : D → Fl → Os → Prop) {l : List D} (h0 : I [] s O) (hst : ∀ p s O, I p s O → st O = true)
    (hf : ∀ p x q, l = p ++ x :: q → ∀ s O, I p s O → (∃ s' O', f x s O = .nx s' O' ∧ I (p ++ [x]) s' O') ∨ ∃ d fl O', f x s O = .rt d fl O' ∧ Q d fl O') :
    (∃ s' O', goS st f l s O = .nx s' O' ∧ I l s' O') ∨ ∃ d fl O', goS st f l s O = .rt d fl O' ∧ Q d fl O' := by
  have key : ∀ (q p : List D) (s : Slots) (O : Os), l = p ++ q → I p s O → (∃ s' O', goS st f q s O = .nx s' O' ∧ I l s' O') ∨ ∃ d fl O', goS st f q s O = .rt d fl O' ∧ Q d fl O' := fun q => by
    induction q with
    | nil =>
      intro p s O e i
      rw [List.append_nil] at e
      subst e
      exact .inl ⟨s, O, by unfold goS; rw [if_pos (hst _ _ _ i)], i⟩
    | cons x q ih =>
      intro p s O e i
      rcases hf p x q e s O i with ⟨s1, O1, e1, i1⟩ | ⟨d, fl, O1, e1, i1⟩
      · rcases ih (p ++ [x]) s1 O1 (by rw [e]; simp) i1 with ⟨s2, O2, e2, i2⟩ | ⟨d, fl, O2, e2, i2⟩
        · exact .inl ⟨s2, O2, by unfold goS; rw [if_pos (hst _ _ _ i), e1]; exact e2, i2⟩
        · exact .inr ⟨d, fl, O2, by unfold goS; rw [if_pos (hst _ _ _ i), e1]; exact e2, i2⟩
      · exact .inr ⟨d, fl, O1, by unfold goS; rw [if_pos (hst _ _ _ i), e1]; rfl, i1⟩
  exact key l [] s O rfl h0
/-- a comprehension by an invariant: what has been gone through, what was kept -/
theorem goC_inv {st : Os → Bool} {f : D → Os → Option (Option D × Os)} (I : List D → List D → Os → Prop) {l : List D} (h0 : I [] [] O) (hst : ∀ p a O, I p a O → st O = true)
    (hf : ∀ p x q, l = p ++ x :: q → ∀ a O, I p a O → ∃ o O', f x O = some (o, O') ∧ I (p ++ [x]) (match o with | some v => a ++ [v] | none => a) O') : ∃ (a : List D) (O' : Os), goC st f l [] O = .ok (a.map fun d => (d, .shr)) O' ∧ I l a O' := by
  have key : ∀ (q p acc : List D) (O : Os), l = p ++ q → I p acc.reverse O → ∃ (a : List D) (O' : Os), goC st f q acc O = .ok (a.map fun d => (d, .shr)) O' ∧ I l a O' := fun q => by
    induction q with
    | nil =>
      intro p acc O e i
      rw [List.append_nil] at e
      subst e
      exact ⟨acc.reverse, O, by unfold goC; rw [if_pos (hst _ _ _ i)], i⟩
    | cons x q ih =>
      intro p acc O e i
      obtain ⟨o, O1, e1, i1⟩ := hf p x q e _ O i
      cases o with
      | none =>
        obtain ⟨a, O2, e2, i2⟩ := ih (p ++ [x]) acc O1 (by rw [e]; simp) i1
        exact ⟨a, O2, by unfold goC; rw [if_pos (hst _ _ _ i), e1]; exact e2, i2⟩
      | some v =>
        obtain ⟨a, O2, e2, i2⟩ := ih (p ++ [x]) (v :: acc) O1 (by rw [e]; simp) (by rw [List.reverse_cons]; exact i1)
        exact ⟨a, O2, by unfold goC; rw [if_pos (hst _ _ _ i), e1]; exact e2, i2⟩
  exact key l [] [] O rfl h0
/-- a comprehension over the state as it is: by its map -/
theorem goC_fm {st : Os → Bool} {f : D → Os → Option (Option D × Os)} {g : D → Option D} {l : List D} (hst : st O = true) (hf : ∀ x ∈ l, f x O = some (g x, O)) : goC st f l [] O = .ok ((l.filterMap g).map fun d => (d, .shr)) O := by
  obtain ⟨a, O', e, rfl, rfl⟩ := goC_inv (st := st) (f := f) (fun p a O' => O' = O ∧ a = p.filterMap g) (l := l) (O := O) ⟨rfl, rfl⟩ (fun p a O' i => by rw [i.1]; exact hst) fun p x q e a O' ⟨e1, e2⟩ => by
    subst e1 e2
    refine ⟨g x, O', hf x (by rw [e]; simp), rfl, ?_⟩
    rw [List.filterMap_append]
    cases z : g x <;> simp [z]
  exact e
theorem goC_map {st : Os → Bool} {f : D → Os → Option (Option D × Os)} {g : D → D} {l : List D} (hst : st O = true) (hf : ∀ x ∈ l, f x O = some (some (g x), O)) : goC st f l [] O = .ok ((l.map g).map fun d => (d, .shr)) O := by
  have := goC_fm (g := fun x => some (g x)) hst hf
  rw [this]
  congr 2
  exact List.filterMap_eq_map' ▸ rfl
end
/-! ### loops over things of one's own -/
section
variable {α : Type} {enc : α → D} {s : Slots} {O : Os}
theorem goS_T {st : Os → Bool} {f : D → Slots → Os → Rs} (I : List α → Slots → Os → Prop) {l : List α} (h0 : I [] s O) (hst : ∀ p s O, I p s O → st O = true)
    (hf : ∀ p x q, l = p ++ x :: q → ∀ s O, I p s O → ∃ s' O', f (enc x) s O = .nx s' O' ∧ I (p ++ [x]) s' O') : ∃ s' O', goS st f (l.map enc) s O = .nx s' O' ∧ I l s' O' := by
  have key : ∀ (q p : List α) (s : Slots) (O : Os), l = p ++ q → I p s O → ∃ s' O', goS st f (q.map enc) s O = .nx s' O' ∧ I l s' O' := fun q => by
    induction q with
    | nil =>
      intro p s O e i
      rw [List.append_nil] at e
      subst e
      exact ⟨s, O, by rw [List.map_nil]; unfold goS; rw [if_pos (hst _ _ _ i)], i⟩
    | cons x q ih =>
      intro p s O e i
      obtain ⟨s1, O1, e1, i1⟩ := hf p x q e s O i
      obtain ⟨s2, O2, e2, i2⟩ := ih (p ++ [x]) s1 O1 (by rw [e]; simp) i1
      exact ⟨s2, O2, by rw [List.map_cons]; unfold goS; rw [if_pos (hst _ _ _ i), e1]; exact e2, i2⟩
  exact key l [] s O rfl h0
theorem goS_RT {st : Os → Bool} {f : D → Slots → Os → Rs} (I : List α → Slots → Os → Prop) (Q : D → Fl → Os → Prop) {l : List α} (h0 : I [] s O) (hst : ∀ p s O, I p s O → st O = true)
    (hf : ∀ p x q, l = p ++ x :: q → ∀ s O, I p s O → (∃ s' O', f (enc x) s O = .nx s' O' ∧ I (p ++ [x]) s' O') ∨ ∃ d fl O', f (enc x) s O = .rt d fl O' ∧ Q d fl O') :
    (∃ s' O', goS st f (l.map enc) s O = .nx s' O' ∧ I l s' O') ∨ ∃ d fl O', goS st f (l.map enc) s O = .rt d fl O' ∧ Q d fl O' := by
  have key : ∀ (q p : List α) (s : Slots) (O : Os), l = p ++ q → I p s O → (∃ s' O', goS st f (q.map enc) s O = .nx s' O' ∧ I l s' O') ∨ ∃ d fl O', goS st f (q.map enc) s O = .rt d fl O' ∧ Q d fl O' := fun q => by
    induction q with
    | nil =>
      intro p s O e i
      rw [List.append_nil] at e
      subst e
      exact .inl ⟨s, O, by rw [List.map_nil]; unfold goS; rw [if_pos (hst _ _ _ i)], i⟩
    | cons x q ih =>
      intro p s O e i
      rcases hf p x q e s O i with ⟨s1, O1, e1, i1⟩ | ⟨d, fl, O1, e1, i1⟩
      · rcases ih (p ++ [x]) s1 O1 (by rw [e]; simp) i1 with ⟨s2, O2, e2, i2⟩ | ⟨d, fl, O2, e2, i2⟩
        · exact .inl ⟨s2, O2, by rw [List.map_cons]; unfold goS; rw [if_pos (hst _ _ _ i), e1]; exact e2, i2⟩
        · exact .inr ⟨d, fl, O2, by rw [List.map_cons]; unfold goS; rw [if_pos (hst _ _ _ i), e1]; exact e2, i2⟩
      · exact .inr ⟨d, fl, O1, by rw [List.map_cons]; unfold goS; rw [if_pos (hst _ _ _ i), e1]; rfl, i1⟩
  exact key l [] s O rfl h0
theorem goC_T {st : Os → Bool} {f : D → Os → Option (Option D × Os)} {g : α → Option D} {l : List α} (hst : st O = true) (hf : ∀ x ∈ l, f (enc x) O = some (g x, O)) : goC st f (l.map enc) [] O = .ok ((l.filterMap g).map fun d => (d, .shr)) O := by
  have key : ∀ (l : List α) (acc : List D), (∀ x ∈ l, f (enc x) O = some (g x, O)) → goC st f (l.map enc) acc O = .ok ((acc.reverse ++ l.filterMap g).map fun d => (d, .shr)) O := fun l => by
    induction l with
    | nil => intro acc _; rw [List.map_nil]; unfold goC; rw [if_pos hst]; simp
    | cons x l ih =>
      intro acc hf
      rw [List.map_cons]
      unfold goC
      rw [if_pos hst, hf x (by simp)]
      cases q : g x with
      | none => dsimp only; rw [ih acc fun y hy => hf y (by simp [hy])]; simp [q]
      | some v => dsimp only; rw [ih (v :: acc) fun y hy => hf y (by simp [hy])]; simp [q]
  have := key l [] hf
  simpa using this
/-- .. that keeps all -/
theorem goC_mapT {st : Os → Bool} {f : D → Os → Option (Option D × Os)} {g : α → D} {l : List α} (hst : st O = true) (hf : ∀ x ∈ l, f (enc x) O = some (some (g x), O)) : goC st f (l.map enc) [] O = .ok ((l.map g).map fun d => (d, .shr)) O := by
  have := goC_T (enc := enc) (g := fun x => some (g x)) hst hf
  rw [this]
  congr 2
  exact List.filterMap_eq_map' ▸ rfl
/-- .. that keeps some as they are -/
theorem goC_filT {st : Os → Bool} {f : D → Os → Option (Option D × Os)} {c : α → Bool} {l : List α} (hst : st O = true) (hf : ∀ x ∈ l, f (enc x) O = some (if c x = true then some (enc x) else none, O)) : goC st f (l.map enc) [] O = .ok (((l.filter c).map enc).map fun d => (d, .shr)) O := by
  have := goC_T (enc := enc) (g := fun x => if c x = true then some (enc x) else none) hst hf
  rw [this]
  congr 2
  clear this hf
  induction l with
  | nil => rfl
  | cons x l ih => by_cases z : c x = true <;> simp [z, ih]
theorem ints_range {lo : Int} {n : Nat} : rangeI lo n = ((List.range n).map fun (i : Nat) => lo + (i : Int)).map D.int := by rw [rangeI_eq, List.map_map]; rfl
end
/-! ### data -/
/-- data that == tells apart as it is: no truths -/
def gd : Nat → D → Bool
  | _, .non => true
  | _, .int _ => true
  | _, .str s => PyData.strOk s
  | n + 1, .tup l => l.all (gd n)
  | n + 1, .lst l => l.all (gd n)
  | _, _ => false
theorem dat_gd : ∀ (n : Nat) {x : D}, gd n x = true → ∃ p, dat n x = some p
  | _, .non, _ => by unfold dat; exact ⟨_, rfl⟩
  | _, .int _, _ => by unfold dat; exact ⟨_, rfl⟩
  | _, .str _, h => by unfold gd at h; unfold dat; rw [if_pos h]; exact ⟨_, rfl⟩
  | n + 1, .tup l, h => by
    unfold gd at h
    unfold dat
    have : ∃ ps, Dl.allO (l.map (dat n)) = some ps := by
      induction l with
      | nil => exact ⟨[], rfl⟩
      | cons x l ih =>
        simp only [List.all_cons, Bool.and_eq_true] at h
        obtain ⟨p, hp⟩ := dat_gd n h.1
        obtain ⟨ps, hps⟩ := ih h.2
        exact ⟨p :: ps, by rw [List.map_cons, hp]; unfold Dl.allO; rw [hps]⟩
    obtain ⟨ps, h⟩ := this
    rw [h]
    exact ⟨_, rfl⟩
  | n + 1, .lst l, h => by
    unfold gd at h
    unfold dat
    have : ∃ ps, Dl.allO (l.map (dat n)) = some ps := by
      induction l with
      | nil => exact ⟨[], rfl⟩
      | cons x l ih =>
        simp only [List.all_cons, Bool.and_eq_true] at h
        obtain ⟨p, hp⟩ := dat_gd n h.1
        obtain ⟨ps, hps⟩ := ih h.2
        exact ⟨p :: ps, by rw [List.map_cons, hp]; unfold Dl.allO; rw [hps]⟩
    obtain ⟨ps, h⟩ := this
    rw [h]
    exact ⟨_, rfl⟩
  | 0, .tup _, h => by unfold gd at h; cases h
  | 0, .lst _, h => by unfold gd at h; cases h
  | _, .bl _, h => by unfold gd at h; cases h
  | _, .dct _, h => by unfold gd at h; cases h
  | _, .obj _, h => by unfold gd at h; cases h
  | _, .hx, h => by unfold gd at h; cases h
  | _, .own _, h => by unfold gd at h; cases h
  | _, .box _ _, h => by unfold gd at h; cases h
  | _, .rl _, h => by unfold gd at h; cases h
theorem eqv_all {n : Nat} (ih : ∀ (x y : D) (p q : PyData), gd n x = true → gd n y = true → dat n x = some p → dat n y = some q → (PyData.eqv p q = true ↔ x = y)) : ∀ (xs ys : List D) (ps qs : List PyData), xs.all (gd n) = true → ys.all (gd n) = true → Dl.allO (xs.map (dat n)) = some ps → Dl.allO (ys.map (dat n)) = some qs → (PyData.eqvAll ps qs = true ↔ xs = ys)
  | [], [], ps, qs, _, _, hp, hq => by rw [allO_nil hp, allO_nil hq]; simp [PyData.eqvAll]
  | [], y :: ys, ps, qs, _, _, hp, hq => by
    obtain ⟨q, qs, _, _, rfl⟩ := allO_cons hq
    rw [allO_nil hp]
    simp [PyData.eqvAll]
  | x :: xs, [], ps, qs, _, _, hp, hq => by
    obtain ⟨q, qs, _, _, rfl⟩ := allO_cons hp
    rw [allO_nil hq]
    simp [PyData.eqvAll]
  | x :: xs, y :: ys, ps, qs, hx, hy, hp, hq => by
    obtain ⟨p, ps, p1, p2, rfl⟩ := allO_cons hp
    obtain ⟨q, qs, q1, q2, rfl⟩ := allO_cons hq
    simp only [List.all_cons, Bool.and_eq_true] at hx hy
    have a := ih x y p q hx.1 hy.1 p1 q1
    have b := eqv_all ih xs ys ps qs hx.2 hy.2 p2 q2
    simp [PyData.eqvAll, a, b]
theorem allO_of {n : Nat} {l : List D} {c : List PyData → PyData} {p : PyData} (h : (Dl.allO (l.map (dat n))).map c = some p) : ∃ ps, Dl.allO (l.map (dat n)) = some ps ∧ p = c ps := by
  cases q : Dl.allO (l.map (dat n)) with
  | none => rw [q] at h; cases h
  | some ps => rw [q] at h; cases h; exact ⟨ps, rfl, rfl⟩
theorem eqv_gd : ∀ (n : Nat) (x y : D) (p q : PyData), gd n x = true → gd n y = true → dat n x = some p → dat n y = some q → (PyData.eqv p q = true ↔ x = y) := by
  intro n
  induction n with
  | zero =>
    intro x y p q hx hy hp hq
    cases x <;> first | (unfold gd at hx; cases hx; done) | skip
    all_goals cases y <;> first | (unfold gd at hy; cases hy; done) | skip
    all_goals
      unfold gd at hx hy
      unfold dat at hp hq
      first | (rw [if_pos hx] at hp; cases hp) | cases hp
      first | (rw [if_pos hy] at hq; cases hq) | cases hq
      simp [PyData.eqv]
  | succ n ih =>
    intro x y p q hx hy hp hq
    cases x <;> first | (unfold gd at hx; cases hx; done) | skip
    all_goals cases y <;> first | (unfold gd at hy; cases hy; done) | skip
    all_goals
      unfold gd at hx hy
      unfold dat at hp hq
      first | (rw [if_pos hx] at hp; cases hp) | (obtain ⟨ps, p1, rfl⟩ := allO_of hp) | cases hp
      first | (rw [if_pos hy] at hq; cases hq) | (obtain ⟨qs, q1, rfl⟩ := allO_of hq) | cases hq
      first | (simp [PyData.eqv, eqv_all ih _ _ _ _ hx hy p1 q1]; done) | simp [PyData.eqv]
theorem eqq_same {x : D} (h : gd 20 x = true) : eqq x x = some true := by
  obtain ⟨p, hp⟩ := dat_gd 20 h
  unfold eqq
  split
  · rename_i a b z
    cases x <;> first | (cases z; done) | (cases z; simp)
  · rw [hp]
    simp only
    rw [(eqv_gd 20 x x p p h h hp hp).mpr rfl]
theorem eqq_ne {x y : D} (hx : gd 20 x = true) (hy : gd 20 y = true) (ne : x ≠ y) : eqq x y = some false := by
  obtain ⟨p, hp⟩ := dat_gd 20 hx
  obtain ⟨q, hq⟩ := dat_gd 20 hy
  unfold eqq
  split
  · rename_i a b z
    cases x <;> first | (cases z; done) | skip
    all_goals cases y <;> first | (cases z; done) | skip
    all_goals
      cases z
      simp_all
  · rw [hp, hq]
    simp only
    have := eqv_gd 20 x y p q hx hy hp hq
    congr 1
    cases w : PyData.eqv p q with
    | false => rfl
    | true => exact absurd (this.mp w) ne
open Classical in
theorem eqq_gd {x y : D} (hx : gd 20 x = true) (hy : gd 20 y = true) : eqq x y = some (decide (x = y)) := by
  by_cases c : x = y
  · subst c; rw [eqq_same hx]; simp
  · rw [eqq_ne hx hy c]; simp [c]
end Pu
set_option Elab.async false
set_option linter.all false
set_option maxRecDepth 100000
/-! law_k82_standing_and_told: the program in the small language, and that it is this text. -/
namespace K82
open PySem L2 Dl
def top (i : Nat) : Stmt := PySem.Challenge.pw_doletaper_k82_standing_and_told.main.body.getD i (.Pass ⟨0, 0, 0, 0⟩)
def s_f_is_name : Stmt := top 12
def N_f_is_name : List Str := ["thing", "letter"]
def P_f_is_name : List Str := ["thing"]
def b_f_is_name : List Sm := [.ite (.or [(.nt (.bi (.isi .str) [(.v 0)])), (.nt (.cmp2 .le .le (.k (.int 1)) (.bi .len [(.v 0)]) (.g 0)))]) [.ret (.k (.bl false))] [], .fr (.nm 1) (.v 0) [.ite (.cmp .nin (.v 1) (.g 1)) [.ret (.k (.bl false))] []], .ret (.k (.bl true))]
def f_is_name : Fn := ⟨1, 2, [], b_f_is_name⟩
def s_f_is_within : Stmt := top 13
def N_f_is_within : List Str := ["thing", "most"]
def P_f_is_within : List Str := ["thing", "most"]
def b_f_is_within : List Sm := [.ret (.an [(.bi (.isi .int) [(.v 0)]), (.nt (.bi (.isi .bool) [(.v 0)])), (.cmp2 .le .le (.k (.int 0)) (.v 0) (.v 1))])]
def f_is_within : Fn := ⟨2, 2, [], b_f_is_within⟩
def s_f_person : Stmt := top 14
def N_f_person : List Str := ["name", "age", "pay", "rent"]
def P_f_person : List Str := ["name", "age", "pay", "rent"]
def b_f_person : List Sm := [.ite (.or [(.nt (.call 0 [(.v 0)])), (.nt (.call 1 [(.v 1), (.g 2)]))]) [.nvr] [], .ite (.or [(.nt (.call 1 [(.v 2), (.g 3)])), (.nt (.call 1 [(.v 3), (.g 3)]))]) [.nvr] [], .ret (.tup [(.v 0), (.v 1), (.v 2), (.v 3)])]
def f_person : Fn := ⟨4, 4, [], b_f_person⟩
def s_f_is_whole_to : Stmt := top 19
def N_f_is_whole_to : List Str := ["thing", "most"]
def P_f_is_whole_to : List Str := ["thing", "most"]
def b_f_is_whole_to : List Sm := [.ret (.an [(.bi (.isi .int) [(.v 0)]), (.nt (.bi (.isi .bool) [(.v 0)])), (.cmp2 .le .le (.k (.int 0)) (.v 0) (.v 1))])]
def f_is_whole_to : Fn := ⟨2, 2, [], b_f_is_whole_to⟩
def s_f_is_of_person : Stmt := top 20
def N_f_is_of_person : List Str := ["fact"]
def P_f_is_of_person : List Str := ["fact"]
def b_f_is_of_person : List Sm := [.tryn [.ex (.call 2 [(.ix (.v 0) (.k (.int 1))), (.ix (.v 0) (.k (.int 2))), (.ix (.v 0) (.k (.int 3))), (.ix (.v 0) (.k (.int 4)))])], .ret (.k (.bl true))]
def f_is_of_person : Fn := ⟨1, 1, [], b_f_is_of_person⟩
def s_f_is_fact : Stmt := top 21
def N_f_is_fact : List Str := ["fact"]
def P_f_is_fact : List Str := ["fact"]
def b_f_is_fact : List Sm := [.ite (.nt (.bi (.isi .tuple) [(.v 0)])) [.ret (.k (.bl false))] [], .ite (.an [(.cmp .eq (.bi .len [(.v 0)]) (.k (.int 5))), (.cmp .eq (.ix (.v 0) (.k (.int 0))) (.k (.str "is")))]) [.ret (.call 4 [(.v 0)])] [], .ite (.an [(.cmp .eq (.bi .len [(.v 0)]) (.k (.int 2))), (.cmp .eq (.ix (.v 0) (.k (.int 0))) (.k (.str "gone")))]) [.ret (.call 0 [(.ix (.v 0) (.k (.int 1)))])] [], .ite (.an [(.cmp .eq (.bi .len [(.v 0)]) (.k (.int 3))), (.or [(.cmp .eq (.ix (.v 0) (.k (.int 0))) (.k (.str "with"))), (.cmp .eq (.ix (.v 0) (.k (.int 0))) (.k (.str "apart")))])]) [.ret (.an [(.call 0 [(.ix (.v 0) (.k (.int 1)))]), (.call 0 [(.ix (.v 0) (.k (.int 2)))]), (.cmp .ne (.ix (.v 0) (.k (.int 1))) (.ix (.v 0) (.k (.int 2))))])] [], .ret (.k (.bl false))]
def f_is_fact : Fn := ⟨1, 1, [], b_f_is_fact⟩
def s_f_news : Stmt := top 22
def N_f_news : List Str := ["number", "heard", "first", "last", "fact"]
def P_f_news : List Str := ["number", "heard", "first", "last", "fact"]
def b_f_news : List Sm := [.ite (.or [(.nt (.call 3 [(.v 0), (.g 4)])), (.nt (.call 3 [(.v 1), (.g 5)]))]) [.nvr] [], .ite (.or [(.nt (.call 3 [(.v 2), (.g 5)])), (.nt (.call 3 [(.v 3), (.g 5)])), (.cmp .gt (.v 2) (.v 3))]) [.nvr] [], .ite (.nt (.call 5 [(.v 4)])) [.nvr] [], .ret (.tup [(.v 0), (.v 1), (.v 2), (.v 3), (.v 4)])]
def f_news : Fn := ⟨5, 5, [], b_f_news⟩
def s_f_matter : Stmt := top 23
def N_f_matter : List Str := ["fact"]
def P_f_matter : List Str := ["fact"]
def b_f_matter : List Sm := [.ite (.or [(.cmp .eq (.ix (.v 0) (.k (.int 0))) (.k (.str "is"))), (.cmp .eq (.ix (.v 0) (.k (.int 0))) (.k (.str "gone")))]) [.ret (.tup [(.k (.str "person")), (.ix (.v 0) (.k (.int 1)))])] [], .ret (.tup [(.k (.str "pair")), (.bi .min [(.ix (.v 0) (.k (.int 1))), (.ix (.v 0) (.k (.int 2)))]), (.bi .max [(.ix (.v 0) (.k (.int 1))), (.ix (.v 0) (.k (.int 2)))])])]
def f_matter : Fn := ⟨1, 1, [], b_f_matter⟩
def s_f__law_cell : Stmt := top 26
def N_f__law_cell : List Str := ["_law_script", "_law_k"]
def P_f__law_cell : List Str := ["_law_script", "_law_k"]
def b_f__law_cell : List Sm := [.ite (.cmp .lt (.v 1) (.bi .len [(.v 0)])) [.ret (.ix (.v 0) (.v 1))] [], .ret (.k (.int 0))]
def f__law_cell : Fn := ⟨2, 2, [], b_f__law_cell⟩
def s_f__law_mixed : Stmt := top 27
def N_f__law_mixed : List Str := ["_law_cell_here", "_law_k", "_law_prime"]
def P_f__law_mixed : List Str := ["_law_cell_here", "_law_k"]
def b_f__law_mixed : List Sm := [.asg (.nm 2) (.ix (.lst [(.k (.int 48271)), (.k (.int 16807)), (.k (.int 69621)), (.k (.int 39373))]) (.bin .mod (.v 1) (.k (.int 4)))), .ret (.bin .mod (.bin .mul (.bin .mul (.bin .add (.bin .add (.bin .mod (.v 0) (.k (.int 1000000000039))) (.bin .mul (.k (.int 7)) (.v 1))) (.k (.int 3))) (.v 2)) (.v 2)) (.k (.int 1000000000039)))]
def f__law_mixed : Fn := ⟨2, 3, [], b_f__law_mixed⟩
def s_f__law_pool : Stmt := top 28
def N_f__law_pool : List Str := ["_law_cell_here", "_law_letters", "_law_size", "_law_at", "_law_word", "_law_names", "_law_k", "_law_name", "_law_j"]
def P_f__law_pool : List Str := ["_law_cell_here"]
def b_f__law_pool : List Sm := [.asg (.nm 1) (.k (.str "abcdefghijklmnopqrstuvwxyz")), .asg (.nm 2) (.bin .add (.k (.int 1)) (.bin .mod (.v 0) (.k (.int 8)))), .asg (.nm 3) (.bin .mod (.bin .fdiv (.v 0) (.k (.int 8))) (.v 2)), .asg (.nm 4) (.compR (.bin .mod (.call 9 [(.bin .fdiv (.v 0) (.k (.int 64))), (.v 6)]) (.k (.int 26))) (.nm 6) [(.k (.int 8))] none [6]), .asg (.nm 5) (.lst []), .frR (.nm 6) [(.k (.int 7))] [.asg (.nm 7) (.k (.str "")), .frR (.nm 8) [(.v 2)] [.asg (.nm 7) (.bin .add (.v 7) (.ix (.v 1) (.bin .mod (.bin .add (.bin .mul (.ix (.v 4) (.v 8)) (.bi .int [(.or [(.cmp .eq (.bin .mod (.bin .fdiv (.v 0) (.k (.int 64))) (.k (.int 2))) (.k (.int 0))), (.cmp .eq (.v 8) (.v 3))])])) (.bin .mul (.v 6) (.bi .int [(.cmp .eq (.v 8) (.v 3))]))) (.k (.int 26)))))], .ite (.cmp .eq (.bin .mod (.bin .fdiv (.v 0) (.k (.int 512))) (.k (.int 5))) (.k (.int 1))) [.asg (.nm 7) (.sl (.k (.str "abcdefgh")) none (some (.bin .add (.v 6) (.k (.int 1)))))] [], .ite (.an [(.cmp .eq (.bin .mod (.bin .fdiv (.v 0) (.k (.int 512))) (.k (.int 5))) (.k (.int 3))), (.cmp .lt (.v 2) (.k (.int 8)))]) [.asg (.nm 7) (.bin .add (.v 7) (.bin .mul (.k (.str "a")) (.bin .mod (.v 6) (.k (.int 2)))))] [], .ex (.bm .append (.v 5) [(.v 7)])], .ret (.v 5)]
def f__law_pool : Fn := ⟨1, 9, [], b_f__law_pool⟩
def s_f__law_fact : Stmt := top 29
def N_f__law_fact : List Str := ["_law_pool_here", "_law_cell_here", "_law_way", "_law_name", "_law_other", "_law_size", "_law_age"]
def P_f__law_fact : List Str := ["_law_pool_here", "_law_cell_here"]
def b_f__law_fact : List Sm := [.asg (.nm 2) (.bin .mod (.call 9 [(.v 1), (.k (.int 2))]) (.k (.int 6))), .asg (.nm 3) (.ix (.v 0) (.bin .mod (.call 9 [(.v 1), (.k (.int 0))]) (.bi .len [(.v 0)]))), .asg (.nm 4) (.ix (.v 0) (.bin .mod (.bin .add (.bin .add (.call 9 [(.v 1), (.k (.int 0))]) (.k (.int 1))) (.bin .mod (.call 9 [(.v 1), (.k (.int 1))]) (.bin .sub (.bi .len [(.v 0)]) (.k (.int 1))))) (.bi .len [(.v 0)]))), .ite (.cmp .lt (.v 2) (.k (.int 2))) [.asg (.nm 5) (.ix (.lst [(.k (.int 100)), (.bin .add (.bin .pow (.k (.int 10)) (.k (.int 9))) (.k (.int 1)))]) (.bin .mod (.call 9 [(.v 1), (.k (.int 3))]) (.k (.int 2)))), .asg (.nm 6) (.bin .mod (.call 9 [(.v 1), (.k (.int 1))]) (.k (.int 151))), .ret (.tup [(.k (.str "is")), (.v 3), (.v 6), (.bin .mod (.bin .fdiv (.call 9 [(.v 1), (.k (.int 3))]) (.k (.int 2))) (.v 5)), (.bin .mod (.bin .fdiv (.call 9 [(.v 1), (.k (.int 0))]) (.k (.int 7))) (.v 5))])] [], .ite (.cmp .eq (.v 2) (.k (.int 2))) [.ret (.tup [(.k (.str "gone")), (.v 3)])] [], .ite (.cmp .eq (.v 2) (.k (.int 5))) [.ret (.tup [(.k (.str "apart")), (.v 3), (.v 4)])] [], .ret (.tup [(.k (.str "with")), (.v 3), (.v 4)])]
def f__law_fact : Fn := ⟨2, 7, [], b_f__law_fact⟩
def s_f__law_matter : Stmt := top 30
def N_f__law_matter : List Str := ["_law_fact_here"]
def P_f__law_matter : List Str := ["_law_fact_here"]
def b_f__law_matter : List Sm := [.ite (.or [(.cmp .eq (.ix (.v 0) (.k (.int 0))) (.k (.str "is"))), (.cmp .eq (.ix (.v 0) (.k (.int 0))) (.k (.str "gone")))]) [.ret (.tup [(.k (.str "person")), (.ix (.v 0) (.k (.int 1)))])] [], .ret (.bin .add (.tup [(.k (.str "pair"))]) (.bi .tuple [(.bi .sorted [(.lst [(.ix (.v 0) (.k (.int 1))), (.ix (.v 0) (.k (.int 2)))])])]))]
def f__law_matter : Fn := ⟨1, 1, [], b_f__law_matter⟩
def s_f__law_news : Stmt := top 31
def N_f__law_news : List Str := ["_law_cells", "_law_pool_here", "_law_span", "_law_rows", "_law_k", "_law_cell_here", "_law_number", "_law_first", "_law_last", "_law_heard", "_law_row"]
def P_f__law_news : List Str := ["_law_cells", "_law_pool_here", "_law_span"]
def b_f__law_news : List Sm := [.asg (.nm 3) (.lst []), .frR (.nm 4) [(.bi .len [(.v 0)])] [.asg (.nm 5) (.bin .add (.ix (.v 0) (.v 4)) (.bin .mul (.k (.int 7919)) (.v 4))), .asg (.nm 6) (.bi .min [(.bin .pow (.k (.int 10)) (.k (.int 9))), (.bin .mod (.bin .fdiv (.call 9 [(.v 5), (.k (.int 3))]) (.k (.int 8))) (.ix (.lst [(.k (.int 100)), (.bin .mul (.k (.int 11)) (.bin .pow (.k (.int 10)) (.k (.int 8))))]) (.bin .mod (.bin .fdiv (.call 9 [(.v 5), (.k (.int 2))]) (.k (.int 6))) (.k (.int 2)))))]), .asg (.nm 7) (.bin .mod (.bin .fdiv (.call 9 [(.v 5), (.k (.int 1))]) (.k (.int 151))) (.k (.int 24))), .asg (.nm 8) (.bi .min [(.k (.int 23)), (.bin .add (.v 7) (.bin .mod (.bin .fdiv (.call 9 [(.v 5), (.k (.int 0))]) (.k (.int 90))) (.v 2)))]), .asg (.nm 9) (.bin .mod (.bin .fdiv (.call 9 [(.v 5), (.k (.int 2))]) (.k (.int 12))) (.k (.int 24))), .ite (.cmp .nin (.v 6) (.comp (.ix (.v 10) (.k (.int 0))) (.nm 10) (.v 3) none [10])) [.ex (.bm .append (.v 3) [(.tup [(.v 6), (.v 9), (.v 7), (.v 8), (.call 11 [(.v 1), (.v 5)])])])] []], .ret (.v 3)]
def f__law_news : Fn := ⟨3, 11, [], b_f__law_news⟩
def s_f__law_months : Stmt := top 32
def N_f__law_months : List Str := ["_law_rows", "_law_one", "_law_months_here", "_law_month", "_law_free", "_law_row"]
def P_f__law_months : List Str := ["_law_rows", "_law_one"]
def b_f__law_months : List Sm := [.asg (.nm 2) (.lst []), .frR (.nm 3) [(.ix (.v 1) (.k (.int 2))), (.bin .add (.ix (.v 1) (.k (.int 3))) (.k (.int 1)))] [.asg (.nm 4) (.k (.bl true)), .fr (.nm 5) (.v 0) [.ite (.an [(.cmp .gt (.ix (.v 5) (.k (.int 0))) (.ix (.v 1) (.k (.int 0)))), (.cmp .le (.ix (.v 5) (.k (.int 2))) (.v 3)), (.cmp .le (.v 3) (.ix (.v 5) (.k (.int 3))))]) [.ite (.cmp .eq (.call 12 [(.ix (.v 5) (.k (.int 4)))]) (.call 12 [(.ix (.v 1) (.k (.int 4)))])) [.asg (.nm 4) (.k (.bl false))] []] []], .ite (.v 4) [.ex (.bm .append (.v 2) [(.v 3)])] []], .ret (.v 2)]
def f__law_months : Fn := ⟨2, 6, [], b_f__law_months⟩
def s_f__law_stands : Stmt := top 33
def N_f__law_stands : List Str := ["_law_rows", "_law_month", "_law_closing", "_law_best", "_law_row", "_law_about"]
def P_f__law_stands : List Str := ["_law_rows", "_law_month", "_law_closing"]
def b_f__law_stands : List Sm := [.asg (.nm 3) .dct0, .fr (.nm 4) (.bi .sorted [(.v 0)]) [.ite (.an [(.cmp .le (.ix (.v 4) (.k (.int 1))) (.v 2)), (.cmp .le (.ix (.v 4) (.k (.int 2))) (.v 1)), (.cmp .le (.v 1) (.ix (.v 4) (.k (.int 3))))]) [.sub (.v 3) (.call 12 [(.ix (.v 4) (.k (.int 4)))]) (.ix (.v 4) (.k (.int 4)))] []], .ret (.comp (.tup [(.v 5), (.ix (.v 3) (.v 5))]) (.nm 5) (.bi .sorted [(.v 3)]) none [5])]
def f__law_stands : Fn := ⟨3, 6, [], b_f__law_stands⟩
def s_f__law_alike : Stmt := top 34
def N_f__law_alike : List Str := ["_law_book", "_law_rows", "_law_month", "_law_closing", "_law_found", "_law_told", "_law_again"]
def P_f__law_alike : List Str := ["_law_book", "_law_rows", "_law_month", "_law_closing"]
def b_f__law_alike : List Sm := [.asg (.nm 4) (.meth 0 (.v 0) [(.v 2), (.v 3)]), .ite (.or [(.nt (.bi (.isi .dict) [(.v 4)])), (.cmp .ne (.dl .items (.v 4)) (.call 15 [(.v 1), (.v 2), (.v 3)]))]) [.ret (.k (.bl false))] [], .asg (.nm 5) (.meth 1 (.v 0) []), .ite (.or [(.nt (.bi (.isi .list) [(.v 5)])), (.cmp .ne (.v 5) (.bi .sorted [(.v 1)]))]) [.ret (.k (.bl false))] [], .ex (.bm .clear (.v 4) []), .ex (.bm .clear (.v 5) []), .asg (.nm 6) (.dl .items (.meth 0 (.v 0) [(.v 2), (.v 3)])), .ret (.an [(.cmp .eq (.meth 1 (.v 0) []) (.bi .sorted [(.v 1)])), (.cmp .eq (.v 6) (.call 15 [(.v 1), (.v 2), (.v 3)]))])]
def f__law_alike : Fn := ⟨4, 7, [], b_f__law_alike⟩
def s_f_law : Stmt := top 35
def N_f_law : List Str := ["_law_script", "_law_pool_here", "_law_rows", "_law_book", "_law_beside", "_law_told", "_law_half", "_law_stop", "_law_spot", "_law_k", "_law_one", "_law_found", "_law_month", "_law_closing"]
def P_f_law : List Str := ["_law_script"]
def b_f_law : List Sm := [.asg (.nm 1) (.call 10 [(.call 8 [(.v 0), (.k (.int 0))])]), .asg (.nm 2) (.call 13 [(.sl (.v 0) (some (.k (.int 3))) (some (.k (.int 62)))), (.v 1), (.ix (.lst [(.k (.int 4)), (.k (.int 24))]) (.bin .mod (.call 8 [(.v 0), (.k (.int 1))]) (.k (.int 2))))]), .asg (.nm 3) (.mk 0 []), .asg (.nm 4) (.mk 0 []), .asg (.nm 5) (.lst []), .asg (.nm 6) (.lst []), .asg (.nm 7) (.bin .mod (.call 8 [(.v 0), (.k (.int 2))]) (.bin .add (.bi .len [(.v 2)]) (.k (.int 1)))), .asg (.nm 8) (.tup [(.k (.int 0)), (.k (.int 0))]), .frR (.nm 9) [(.bi .len [(.v 2)])] [.asg (.nm 10) (.ix (.v 2) (.v 9)), .ite (.cmp .eq (.v 9) (.v 7)) [.asg (.nm 8) (.tup [(.ix (.v 10) (.bin .add (.k (.int 2)) (.bin .mod (.v 9) (.k (.int 2))))), (.ix (.v 10) (.k (.int 1)))]), .ite (.nt (.call 16 [(.v 3), (.v 5), (.ix (.v 8) (.k (.int 0))), (.ix (.v 8) (.k (.int 1)))])) [.ret (.k (.bl false))] []] [], .asg (.nm 11) (.meth 2 (.v 3) [(.ix (.v 10) (.k (.int 0))), (.ix (.v 10) (.k (.int 1))), (.ix (.v 10) (.k (.int 2))), (.ix (.v 10) (.k (.int 3))), (.ix (.v 10) (.k (.int 4)))]), .ite (.or [(.nt (.bi (.isi .list) [(.v 11)])), (.cmp .ne (.v 11) (.call 14 [(.v 5), (.v 10)]))]) [.ret (.k (.bl false))] [], .ex (.bm .append (.v 5) [(.v 10)]), .ite (.cmp .eq (.bin .mod (.v 9) (.k (.int 2))) (.k (.int 1))) [.ex (.meth 2 (.v 4) [(.ix (.v 10) (.k (.int 0))), (.ix (.v 10) (.k (.int 1))), (.ix (.v 10) (.k (.int 2))), (.ix (.v 10) (.k (.int 3))), (.ix (.v 10) (.k (.int 4)))]), .ex (.bm .append (.v 6) [(.v 10)])] []], .ite (.nt (.call 16 [(.v 3), (.v 2), (.ix (.v 8) (.k (.int 0))), (.ix (.v 8) (.k (.int 1)))])) [.ret (.k (.bl false))] [], .frR (.nm 9) [(.k (.int 3))] [.asg (.nm 12) (.bin .mod (.call 9 [(.call 8 [(.v 0), (.v 9)]), (.k (.int 1))]) (.k (.int 24))), .asg (.nm 13) (.bin .mod (.call 9 [(.call 8 [(.v 0), (.v 9)]), (.k (.int 2))]) (.k (.int 24))), .ite (.an [(.cmp .ne (.v 2) (.lst [])), (.cmp .gt (.v 9) (.k (.int 0)))]) [.asg (.nm 12) (.ix (.ix (.v 2) (.bin .mod (.bin .fdiv (.call 8 [(.v 0), (.k (.int 1))]) (.k (.int 2))) (.bi .len [(.v 2)]))) (.bin .add (.k (.int 1)) (.v 9))), .asg (.nm 13) (.ix (.ix (.v 2) (.bin .mod (.call 8 [(.v 0), (.k (.int 2))]) (.bi .len [(.v 2)]))) (.k (.int 1)))] [], .ite (.or [(.nt (.call 16 [(.v 3), (.v 2), (.v 12), (.v 13)])), (.nt (.call 16 [(.v 4), (.v 6), (.v 12), (.v 13)]))]) [.ret (.k (.bl false))] []], .ret (.k (.bl true))]
def f_law : Fn := ⟨1, 14, [], b_f_law⟩
def s_f_Book_init : Stmt := inClass (top 24) 0
def N_f_Book_init : List Str := ["self"]
def P_f_Book_init : List Str := ["self"]
def b_f_Book_init : List Sm := [.fld (.v 0) 0 .dct0]
def f_Book_init : Fn := ⟨1, 1, [], b_f_Book_init⟩
def s_f_Book_tell : Stmt := inClass (top 24) 1
def N_f_Book_tell : List Str := ["self", "number", "heard", "first", "last", "fact", "one", "about", "rivals", "months", "month", "other"]
def P_f_Book_tell : List Str := ["self", "number", "heard", "first", "last", "fact"]
def b_f_Book_tell : List Sm := [.asg (.nm 6) (.call 6 [(.v 1), (.v 2), (.v 3), (.v 4), (.v 5)]), .ite (.cmp .inn (.v 1) (.fld (.v 0) 0)) [.nvr] [], .ite (.cmp .eq (.bi .len [(.fld (.v 0) 0)]) (.g 6)) [.nvr] [], .sub (.fld (.v 0) 0) (.v 1) (.v 6), .asg (.nm 7) (.call 7 [(.v 5)]), .asg (.nm 8) (.comp (.v 11) (.nm 11) (.meth 1 (.v 0) []) (some (.an [(.cmp .gt (.ix (.v 11) (.k (.int 0))) (.v 1)), (.cmp .eq (.call 7 [(.ix (.v 11) (.k (.int 4)))]) (.v 7))])) [11]), .asg (.nm 9) (.lst []), .frR (.nm 10) [(.v 3), (.bin .add (.v 4) (.k (.int 1)))] [.ite (.cmp .eq (.comp (.v 11) (.nm 11) (.v 8) (some (.cmp2 .le .le (.ix (.v 11) (.k (.int 2))) (.v 10) (.ix (.v 11) (.k (.int 3))))) [11]) (.lst [])) [.ex (.bm .append (.v 9) [(.v 10)])] []], .ret (.v 9)]
def f_Book_tell : Fn := ⟨6, 12, [], b_f_Book_tell⟩
def s_f_Book_told : Stmt := inClass (top 24) 2
def N_f_Book_told : List Str := ["self", "number"]
def P_f_Book_told : List Str := ["self"]
def b_f_Book_told : List Sm := [.ret (.comp (.ix (.fld (.v 0) 0) (.v 1)) (.nm 1) (.bi .sorted [(.fld (.v 0) 0)]) none [1])]
def f_Book_told : Fn := ⟨1, 2, [], b_f_Book_told⟩
def s_f_Book_standing : Stmt := inClass (top 24) 3
def N_f_Book_standing : List Str := ["self", "month", "closing", "found", "number", "heard", "first", "last", "fact", "told", "about"]
def P_f_Book_standing : List Str := ["self", "month", "closing"]
def b_f_Book_standing : List Sm := [.asg (.nm 3) .dct0, .fr (.tup [(.nm 4), (.nm 5), (.nm 6), (.nm 7), (.nm 8)]) (.meth 1 (.v 0) []) [.ite (.an [(.cmp .le (.v 5) (.v 2)), (.cmp2 .le .le (.v 6) (.v 1) (.v 7))]) [.sub (.v 3) (.call 7 [(.v 8)]) (.v 8)] []], .asg (.nm 9) .dct0, .fr (.nm 10) (.bi .sorted [(.v 3)]) [.sub (.v 9) (.v 10) (.ix (.v 3) (.v 10))], .ret (.v 9)]
def f_Book_standing : Fn := ⟨3, 11, [], b_f_Book_standing⟩
def fns : List Fn := [f_is_name, f_is_within, f_person, f_is_whole_to, f_is_of_person, f_is_fact, f_news, f_matter, f__law_cell, f__law_mixed, f__law_pool, f__law_fact, f__law_matter, f__law_news, f__law_months, f__law_stands, f__law_alike, f_law, f_Book_init, f_Book_tell, f_Book_told, f_Book_standing]
def gls : List Va := [(.int 8), (.str "abcdefghijklmnopqrstuvwxyz"), (.int 150), (.int 1000000000), (.int 1000000000), (.int 23), (.int 60)]
def kl_Book : Cls := { init := (some 18), meths := [(2, 19), (1, 20), (0, 21)], flds := [0] }
def clss : List Cls := [kl_Book]
noncomputable def P : Prog := ⟨fns, gls, clss, wlc⟩
def mutf : Nat → Bool := fun x => x == 0
def nstf : Nat → Bool := fun x => false
noncomputable def Q : Pu.Prog := ⟨fns, gls, clss, mutf, nstf, Pu.wlc⟩
theorem pr : Pu.PR Q P := ⟨rfl, rfl, rfl, rfl, rfl, by decide, by decide⟩
abbrev i_is_name : Nat := 0
abbrev i_is_within : Nat := 1
abbrev i_person : Nat := 2
abbrev i_is_whole_to : Nat := 3
abbrev i_is_of_person : Nat := 4
abbrev i_is_fact : Nat := 5
abbrev i_news : Nat := 6
abbrev i_matter : Nat := 7
abbrev i__law_cell : Nat := 8
abbrev i__law_mixed : Nat := 9
abbrev i__law_pool : Nat := 10
abbrev i__law_fact : Nat := 11
abbrev i__law_matter : Nat := 12
abbrev i__law_news : Nat := 13
abbrev i__law_months : Nat := 14
abbrev i__law_stands : Nat := 15
abbrev i__law_alike : Nat := 16
abbrev i_law : Nat := 17
abbrev i_Book_init : Nat := 18
abbrev i_Book_tell : Nat := 19
abbrev i_Book_told : Nat := 20
abbrev i_Book_standing : Nat := 21
abbrev F_known : Nat := 0
abbrev C_Book : Nat := 0
abbrev M_standing : Nat := 0
abbrev M_told : Nat := 1
abbrev M_tell : Nat := 2
theorem cl_Book : clss[C_Book]? = some kl_Book := rfl
theorem in_Book : kl_Book.init = some i_Book_init := rfl
theorem ml_Book_standing : kl_Book.meths.lookup M_standing = some i_Book_standing := rfl
theorem ml_Book_told : kl_Book.meths.lookup M_told = some i_Book_told := rfl
theorem ml_Book_tell : kl_Book.meths.lookup M_tell = some i_Book_tell := rfl
def M : Nm := ⟨["is_name", "is_within", "person", "is_whole_to", "is_of_person", "is_fact", "news", "matter", "_law_cell", "_law_mixed", "_law_pool", "_law_fact", "_law_matter", "_law_news", "_law_months", "_law_stands", "_law_alike", "law", "", "", "", ""], ["LONGEST", "LETTERS", "OLDEST", "MOST", "MOST_NUMBER", "LAST_MONTH", "MOST_NEWS"], ["Book"], ["known"], ["standing", "told", "tell"], [0]⟩
theorem c_f_is_name : chkB M N_f_is_name (defScope s_f_is_name) b_f_is_name (defBody s_f_is_name) = true := by decide +kernel
theorem c_f_is_within : chkB M N_f_is_within (defScope s_f_is_within) b_f_is_within (defBody s_f_is_within) = true := by decide +kernel
theorem c_f_person : chkB M N_f_person (defScope s_f_person) b_f_person (defBody s_f_person) = true := by decide +kernel
theorem c_f_is_whole_to : chkB M N_f_is_whole_to (defScope s_f_is_whole_to) b_f_is_whole_to (defBody s_f_is_whole_to) = true := by decide +kernel
theorem c_f_is_of_person : chkB M N_f_is_of_person (defScope s_f_is_of_person) b_f_is_of_person (defBody s_f_is_of_person) = true := by decide +kernel
theorem c_f_is_fact : chkB M N_f_is_fact (defScope s_f_is_fact) b_f_is_fact (defBody s_f_is_fact) = true := by decide +kernel
theorem c_f_news : chkB M N_f_news (defScope s_f_news) b_f_news (defBody s_f_news) = true := by decide +kernel
theorem c_f_matter : chkB M N_f_matter (defScope s_f_matter) b_f_matter (defBody s_f_matter) = true := by decide +kernel
theorem c_f__law_cell : chkB M N_f__law_cell (defScope s_f__law_cell) b_f__law_cell (defBody s_f__law_cell) = true := by decide +kernel
theorem c_f__law_mixed : chkB M N_f__law_mixed (defScope s_f__law_mixed) b_f__law_mixed (defBody s_f__law_mixed) = true := by decide +kernel
theorem c_f__law_pool : chkB M N_f__law_pool (defScope s_f__law_pool) b_f__law_pool (defBody s_f__law_pool) = true := by decide +kernel
theorem c_f__law_fact : chkB M N_f__law_fact (defScope s_f__law_fact) b_f__law_fact (defBody s_f__law_fact) = true := by decide +kernel
theorem c_f__law_matter : chkB M N_f__law_matter (defScope s_f__law_matter) b_f__law_matter (defBody s_f__law_matter) = true := by decide +kernel
theorem c_f__law_news : chkB M N_f__law_news (defScope s_f__law_news) b_f__law_news (defBody s_f__law_news) = true := by decide +kernel
theorem c_f__law_months : chkB M N_f__law_months (defScope s_f__law_months) b_f__law_months (defBody s_f__law_months) = true := by decide +kernel
theorem c_f__law_stands : chkB M N_f__law_stands (defScope s_f__law_stands) b_f__law_stands (defBody s_f__law_stands) = true := by decide +kernel
theorem c_f__law_alike : chkB M N_f__law_alike (defScope s_f__law_alike) b_f__law_alike (defBody s_f__law_alike) = true := by decide +kernel
theorem c_f_law : chkB M N_f_law (defScope s_f_law) b_f_law (defBody s_f_law) = true := by decide +kernel
theorem c_f_Book_init : chkB M N_f_Book_init (defScope s_f_Book_init) b_f_Book_init (defBody s_f_Book_init) = true := by decide +kernel
theorem c_f_Book_tell : chkB M N_f_Book_tell (defScope s_f_Book_tell) b_f_Book_tell (defBody s_f_Book_tell) = true := by decide +kernel
theorem c_f_Book_told : chkB M N_f_Book_told (defScope s_f_Book_told) b_f_Book_told (defBody s_f_Book_told) = true := by decide +kernel
theorem c_f_Book_standing : chkB M N_f_Book_standing (defScope s_f_Book_standing) b_f_Book_standing (defBody s_f_Book_standing) = true := by decide +kernel
end K82
set_option Elab.async false
set_option linter.all false
set_option maxRecDepth 100000
set_option maxHeartbeats 4000000
namespace K82
open Pu
open Dl (Va Ex Sm Tg Fn)
open PySem (Str sizeLine PyData)
noncomputable abbrev cf (k : Nat) : Pu.Cfg := { run := Pu.run Q k, gl := gls, cls := clss, mut_ := mutf, nst := nstf, wl := Pu.wlc }
theorem run_at {k f : Nat} {d : Fn} {vs : List Sl} {O : Os} (e : fns[f]? = some d) (hl : vs.length = d.np) : Pu.run Q (k + 1) f vs O = (Pu.exB (cf k) d.body (Pu.begin_ d vs) O).end_ := by
  unfold Pu.run
  rw [show Q.fns[f]? = some d from e]
  dsimp only
  rw [if_pos (by omega)]
  rfl
/-! ### names -/
abbrev azS : Str := "abcdefghijklmnopqrstuvwxyz"
abbrev az : List Nat := azS.cps.toList
structure Good (s : Str) : Prop where
  lo : 1 ≤ s.length
  hi : s.length ≤ 8
  az : ∀ c ∈ s.cps.toList, c ∈ az
theorem le8 : (8 : Nat) ≤ sizeLine := by decide
theorem le1000 : (1000 : Nat) ≤ sizeLine := by decide
theorem is_name_ok {k : Nat} {s : Str} {O : Os} (g : Good s) : Pu.run Q (k + 1) i_is_name [.sh (.str s)] O = .ok (.bl true) .shr O := by
  rw [run_at (d := f_is_name) rfl rfl]
  have h1 : (1 : Int) ≤ s.length := by have := g.lo; omega
  have h2 : (s.length : Int) ≤ 8 := by have := g.hi; omega
  have h3 : s.length ≤ sizeLine := Nat.le_trans g.hi le8
  obtain ⟨s', O', e, ⟨y, rfl⟩, hO⟩ := goS_inv (st := fun _ => true) (f := turnS (cf k) (.nm 1) [.ite (.cmp .nin (.v 1) (.g 1)) [.ret (.k (.bl false))] []]) (fun _ t O' => (∃ y, t = [.sh (.str s), y]) ∧ O = O') (l := s.cps.toList.map fun c => .str ⟨#[c]⟩) (s := [.sh (.str s), .no]) (O := O) ⟨⟨_, rfl⟩, rfl⟩ (fun _ _ _ _ => rfl) fun p x q e t O' ⟨⟨y, e2⟩, e1⟩ => by
    subst e1 e2
    have hx : x ∈ s.cps.toList.map fun c => D.str ⟨#[c]⟩ := by rw [e]; simp
    obtain ⟨c, hc, rfl⟩ := List.mem_map.mp hx
    have := g.az c hc
    refine ⟨[.sh (.str s), .sh (.str ⟨#[c]⟩)], O, ?_, ⟨_, rfl⟩, rfl⟩
    simp only [turn_ap, e_v, e_k, e_g, e_tup, e_lst, e_dct0, e_bin, e_neg, e_nt, e_an, e_or, e_cmp, e_cmp2, e_call, e_mk, e_meth, e_bi, e_fld, e_ix, e_sl, e_ife, e_isx, e_dl, x_asg, x_par, x_fld, x_sub, x_retN, x_pass, x_ite, x_rse, x_try, x_tryn, x_frz, r_k, r_tup, r_lst, r_bin, r_neg, r_nt, r_an, r_or, r_cmp, r_cmp2, r_call, r_mk, r_meth, r_bi, r_ix, r_sl, r_ife, r_g, r_fld, r_comp, r_compR, r_dl, r_dct0, x_exC, x_exM, x_bm, x_retV, b_nil, b_cons, l_nil, l_cons, a_one, a_cons, o_one, o_cons, p_none, p_some, c_none, c_some, bi_ok, bi_exc, bl_ok, bl_exc, lb_ok, lb_exc, th_ok, th_exc, lt_ok, lt_exc, se_nx, se_rt, se_exc, en_nx, en_rt, en_exc, op_shr, op_fr, of_t, of_f, cur_shr, cur_fr, cur_ho, cur_hb, cur_hf, curs_nil, curs_cons, Pu.frz1, Pu.Fl.free, sh_nil, sh_shr, putAt_ho, putAt_fr, bmf_clr, bmf_clrD, bmf_rev, nsts_ho, nsts_fr, nsts_shr, nsts_hb, nsts_hf, ta_nil, ta_shr, ta_ho, ta_hb, ta_hf, Pu.asn, Pu.asn.asns, Pu.wipeS, Pu.frzS, Pu.frz1S, Pu.bfn, Pu.bmT, Pu.dlf, Pu.kOf, bo_add, bo_sub, Pu.cmpo, Pu.truthy, Pu.isTy, Pu.isN, eq_ii, eq_ss, eq_bb, eq_nn, eq_is, eq_si, eq_ni, eq_in, eq_ns, eq_sn, eq_nb, eq_bn, eq_bs, eq_sb, Pu.item, i_0, i_1, i_2, i_3, i_4, Pu.iter, Pu.okIt, Pu.dOf, Pu.dOfs, List.set_cons_zero, List.set_cons_succ, List.getElem?_cons_zero, List.getElem?_cons_succ, List.length_cons, List.length_nil, Option.bind_some, Option.map_some, Option.isSome_some, Option.bind_none, Option.map_none, Option.getD_some, Bool.not_true, Bool.not_false, Va.str.injEq, Va.int.injEq, Va.bl.injEq, Bool.false_eq_true, Bool.true_and, Bool.and_true, Bool.false_and, Bool.and_false, decide_true, decide_false, if_true, if_false, ite_true, ite_false, reduceCtorEq, and_self, true_and, and_true, gls, inn]
    simp [this, se_nx]
  subst hO
  have lp : exS (cf k) (.fr (.nm 1) (.v 0) [.ite (.cmp .nin (.v 1) (.g 1)) [.ret (.k (.bl false))] []]) [.sh (.str s), .no] O = .nx [.sh (.str s), y] O := by
    rw [x_fr (O1 := O) (d := .str s) (fd := .shr) (l := s.cps.toList.map fun c => .str ⟨#[c]⟩) (by simp only [e_v, e_k, e_g, e_tup, e_lst, e_dct0, e_bin, e_neg, e_nt, e_an, e_or, e_cmp, e_cmp2, e_call, e_mk, e_meth, e_bi, e_fld, e_ix, e_sl, e_ife, e_isx, e_dl, x_asg, x_par, x_fld, x_sub, x_retN, x_pass, x_ite, x_rse, x_try, x_tryn, x_frz, r_k, r_tup, r_lst, r_bin, r_neg, r_nt, r_an, r_or, r_cmp, r_cmp2, r_call, r_mk, r_meth, r_bi, r_ix, r_sl, r_ife, r_g, r_fld, r_comp, r_compR, r_dl, r_dct0, x_exC, x_exM, x_bm, x_retV, b_nil, b_cons, l_nil, l_cons, a_one, a_cons, o_one, o_cons, p_none, p_some, c_none, c_some, bi_ok, bi_exc, bl_ok, bl_exc, lb_ok, lb_exc, th_ok, th_exc, lt_ok, lt_exc, se_nx, se_rt, se_exc, en_nx, en_rt, en_exc, op_shr, op_fr, of_t, of_f, cur_shr, cur_fr, cur_ho, cur_hb, cur_hf, curs_nil, curs_cons, Pu.frz1, Pu.Fl.free, sh_nil, sh_shr, putAt_ho, putAt_fr, bmf_clr, bmf_clrD, bmf_rev, nsts_ho, nsts_fr, nsts_shr, nsts_hb, nsts_hf, ta_nil, ta_shr, ta_ho, ta_hb, ta_hf, Pu.asn, Pu.asn.asns, Pu.wipeS, Pu.frzS, Pu.frz1S, Pu.bfn, Pu.bmT, Pu.dlf, Pu.kOf, bo_add, bo_sub, Pu.cmpo, Pu.truthy, Pu.isTy, Pu.isN, eq_ii, eq_ss, eq_bb, eq_nn, eq_is, eq_si, eq_ni, eq_in, eq_ns, eq_sn, eq_nb, eq_bn, eq_bs, eq_sb, Pu.item, i_0, i_1, i_2, i_3, i_4, Pu.iter, Pu.okIt, Pu.dOf, Pu.dOfs, List.set_cons_zero, List.set_cons_succ, List.getElem?_cons_zero, List.getElem?_cons_succ, List.length_cons, List.length_nil, Option.bind_some, Option.map_some, Option.isSome_some, Option.bind_none, Option.map_none, Option.getD_some, Bool.not_true, Bool.not_false, Va.str.injEq, Va.int.injEq, Va.bl.injEq, Bool.false_eq_true, Bool.true_and, Bool.and_true, Bool.false_and, Bool.and_false, decide_true, decide_false, if_true, if_false, ite_true, ite_false, reduceCtorEq, and_self, true_and, and_true]) rfl rfl]
    exact e
  simp only [f_is_name, b_f_is_name, Pu.begin_, List.map_cons, List.map_nil, List.drop_nil, List.append_nil, List.nil_append, List.replicate, List.cons_append, e_v, e_k, e_g, e_tup, e_lst, e_dct0, e_bin, e_neg, e_nt, e_an, e_or, e_cmp, e_cmp2, e_call, e_mk, e_meth, e_bi, e_fld, e_ix, e_sl, e_ife, e_isx, e_dl, x_asg, x_par, x_fld, x_sub, x_retN, x_pass, x_ite, x_rse, x_try, x_tryn, x_frz, r_k, r_tup, r_lst, r_bin, r_neg, r_nt, r_an, r_or, r_cmp, r_cmp2, r_call, r_mk, r_meth, r_bi, r_ix, r_sl, r_ife, r_g, r_fld, r_comp, r_compR, r_dl, r_dct0, x_exC, x_exM, x_bm, x_retV, b_nil, b_cons, l_nil, l_cons, a_one, a_cons, o_one, o_cons, p_none, p_some, c_none, c_some, bi_ok, bi_exc, bl_ok, bl_exc, lb_ok, lb_exc, th_ok, th_exc, lt_ok, lt_exc, se_nx, se_rt, se_exc, en_nx, en_rt, en_exc, op_shr, op_fr, of_t, of_f, cur_shr, cur_fr, cur_ho, cur_hb, cur_hf, curs_nil, curs_cons, Pu.frz1, Pu.Fl.free, sh_nil, sh_shr, putAt_ho, putAt_fr, bmf_clr, bmf_clrD, bmf_rev, nsts_ho, nsts_fr, nsts_shr, nsts_hb, nsts_hf, ta_nil, ta_shr, ta_ho, ta_hb, ta_hf, Pu.asn, Pu.asn.asns, Pu.wipeS, Pu.frzS, Pu.frz1S, Pu.bfn, Pu.bmT, Pu.dlf, Pu.kOf, bo_add, bo_sub, Pu.cmpo, Pu.truthy, Pu.isTy, Pu.isN, eq_ii, eq_ss, eq_bb, eq_nn, eq_is, eq_si, eq_ni, eq_in, eq_ns, eq_sn, eq_nb, eq_bn, eq_bs, eq_sb, Pu.item, i_0, i_1, i_2, i_3, i_4, Pu.iter, Pu.okIt, Pu.dOf, Pu.dOfs, List.set_cons_zero, List.set_cons_succ, List.getElem?_cons_zero, List.getElem?_cons_succ, List.length_cons, List.length_nil, Option.bind_some, Option.map_some, Option.isSome_some, Option.bind_none, Option.map_none, Option.getD_some, Bool.not_true, Bool.not_false, Va.str.injEq, Va.int.injEq, Va.bl.injEq, Bool.false_eq_true, Bool.true_and, Bool.and_true, Bool.false_and, Bool.and_false, decide_true, decide_false, if_true, if_false, ite_true, ite_false, reduceCtorEq, and_self, true_and, and_true, gls, h1, h2, h3, lp]
theorem is_within_ok {k : Nat} {i m : Int} {O : Os} (h0 : 0 ≤ i) (h1 : i ≤ m) : Pu.run Q (k + 1) i_is_within [.sh (.int i), .sh (.int m)] O = .ok (.bl true) .shr O := by
  rw [run_at (d := f_is_within) rfl rfl]
  simp only [f_is_within, b_f_is_within, Pu.begin_, List.map_cons, List.map_nil, List.drop_nil, List.append_nil, List.nil_append, List.replicate, List.cons_append, e_v, e_k, e_g, e_tup, e_lst, e_dct0, e_bin, e_neg, e_nt, e_an, e_or, e_cmp, e_cmp2, e_call, e_mk, e_meth, e_bi, e_fld, e_ix, e_sl, e_ife, e_isx, e_dl, x_asg, x_par, x_fld, x_sub, x_retN, x_pass, x_ite, x_rse, x_try, x_tryn, x_frz, r_k, r_tup, r_lst, r_bin, r_neg, r_nt, r_an, r_or, r_cmp, r_cmp2, r_call, r_mk, r_meth, r_bi, r_ix, r_sl, r_ife, r_g, r_fld, r_comp, r_compR, r_dl, r_dct0, x_exC, x_exM, x_bm, x_retV, b_nil, b_cons, l_nil, l_cons, a_one, a_cons, o_one, o_cons, p_none, p_some, c_none, c_some, bi_ok, bi_exc, bl_ok, bl_exc, lb_ok, lb_exc, th_ok, th_exc, lt_ok, lt_exc, se_nx, se_rt, se_exc, en_nx, en_rt, en_exc, op_shr, op_fr, of_t, of_f, cur_shr, cur_fr, cur_ho, cur_hb, cur_hf, curs_nil, curs_cons, Pu.frz1, Pu.Fl.free, sh_nil, sh_shr, putAt_ho, putAt_fr, bmf_clr, bmf_clrD, bmf_rev, nsts_ho, nsts_fr, nsts_shr, nsts_hb, nsts_hf, ta_nil, ta_shr, ta_ho, ta_hb, ta_hf, Pu.asn, Pu.asn.asns, Pu.wipeS, Pu.frzS, Pu.frz1S, Pu.bfn, Pu.bmT, Pu.dlf, Pu.kOf, bo_add, bo_sub, Pu.cmpo, Pu.truthy, Pu.isTy, Pu.isN, eq_ii, eq_ss, eq_bb, eq_nn, eq_is, eq_si, eq_ni, eq_in, eq_ns, eq_sn, eq_nb, eq_bn, eq_bs, eq_sb, Pu.item, i_0, i_1, i_2, i_3, i_4, Pu.iter, Pu.okIt, Pu.dOf, Pu.dOfs, List.set_cons_zero, List.set_cons_succ, List.getElem?_cons_zero, List.getElem?_cons_succ, List.length_cons, List.length_nil, Option.bind_some, Option.map_some, Option.isSome_some, Option.bind_none, Option.map_none, Option.getD_some, Bool.not_true, Bool.not_false, Va.str.injEq, Va.int.injEq, Va.bl.injEq, Bool.false_eq_true, Bool.true_and, Bool.and_true, Bool.false_and, Bool.and_false, decide_true, decide_false, if_true, if_false, ite_true, ite_false, reduceCtorEq, and_self, true_and, and_true, h0, h1]
  try simp
theorem is_whole_to_ok {k : Nat} {i m : Int} {O : Os} (h0 : 0 ≤ i) (h1 : i ≤ m) : Pu.run Q (k + 1) i_is_whole_to [.sh (.int i), .sh (.int m)] O = .ok (.bl true) .shr O := by
  rw [run_at (d := f_is_whole_to) rfl rfl]
  simp only [f_is_whole_to, b_f_is_whole_to, Pu.begin_, List.map_cons, List.map_nil, List.drop_nil, List.append_nil, List.nil_append, List.replicate, List.cons_append, e_v, e_k, e_g, e_tup, e_lst, e_dct0, e_bin, e_neg, e_nt, e_an, e_or, e_cmp, e_cmp2, e_call, e_mk, e_meth, e_bi, e_fld, e_ix, e_sl, e_ife, e_isx, e_dl, x_asg, x_par, x_fld, x_sub, x_retN, x_pass, x_ite, x_rse, x_try, x_tryn, x_frz, r_k, r_tup, r_lst, r_bin, r_neg, r_nt, r_an, r_or, r_cmp, r_cmp2, r_call, r_mk, r_meth, r_bi, r_ix, r_sl, r_ife, r_g, r_fld, r_comp, r_compR, r_dl, r_dct0, x_exC, x_exM, x_bm, x_retV, b_nil, b_cons, l_nil, l_cons, a_one, a_cons, o_one, o_cons, p_none, p_some, c_none, c_some, bi_ok, bi_exc, bl_ok, bl_exc, lb_ok, lb_exc, th_ok, th_exc, lt_ok, lt_exc, se_nx, se_rt, se_exc, en_nx, en_rt, en_exc, op_shr, op_fr, of_t, of_f, cur_shr, cur_fr, cur_ho, cur_hb, cur_hf, curs_nil, curs_cons, Pu.frz1, Pu.Fl.free, sh_nil, sh_shr, putAt_ho, putAt_fr, bmf_clr, bmf_clrD, bmf_rev, nsts_ho, nsts_fr, nsts_shr, nsts_hb, nsts_hf, ta_nil, ta_shr, ta_ho, ta_hb, ta_hf, Pu.asn, Pu.asn.asns, Pu.wipeS, Pu.frzS, Pu.frz1S, Pu.bfn, Pu.bmT, Pu.dlf, Pu.kOf, bo_add, bo_sub, Pu.cmpo, Pu.truthy, Pu.isTy, Pu.isN, eq_ii, eq_ss, eq_bb, eq_nn, eq_is, eq_si, eq_ni, eq_in, eq_ns, eq_sn, eq_nb, eq_bn, eq_bs, eq_sb, Pu.item, i_0, i_1, i_2, i_3, i_4, Pu.iter, Pu.okIt, Pu.dOf, Pu.dOfs, List.set_cons_zero, List.set_cons_succ, List.getElem?_cons_zero, List.getElem?_cons_succ, List.length_cons, List.length_nil, Option.bind_some, Option.map_some, Option.isSome_some, Option.bind_none, Option.map_none, Option.getD_some, Bool.not_true, Bool.not_false, Va.str.injEq, Va.int.injEq, Va.bl.injEq, Bool.false_eq_true, Bool.true_and, Bool.and_true, Bool.false_and, Bool.and_false, decide_true, decide_false, if_true, if_false, ite_true, ite_false, reduceCtorEq, and_self, true_and, and_true, h0, h1]
  try simp
/-! ### facts, rows -/
inductive Fact where
  | is (n : Str) (a p r : Int) | gone (n : Str) | wth (a b : Str) | apart (a b : Str)
  deriving DecidableEq
def Fact.d : Fact → D
  | .is n a p r => .tup [.str "is", .str n, .int a, .int p, .int r]
  | .gone n => .tup [.str "gone", .str n]
  | .wth a b => .tup [.str "with", .str a, .str b]
  | .apart a b => .tup [.str "apart", .str a, .str b]
def smin (a b : Str) : Str := if b.cps.toList < a.cps.toList then b else a
def smax (a b : Str) : Str := if a.cps.toList < b.cps.toList then b else a
/-- what a fact is about, as a key -/
def Fact.about : Fact → Ky
  | .is n _ _ _ => .t [.s "person", .s n]
  | .gone n => .t [.s "person", .s n]
  | .wth a b => .t [.s "pair", .s (smin a b), .s (smax a b)]
  | .apart a b => .t [.s "pair", .s (smin a b), .s (smax a b)]
def Fact.mat (f : Fact) : D := f.about.d
def Fact.ok : Fact → Prop
  | .is n a p r => Good n ∧ (0 ≤ a ∧ a ≤ 150) ∧ (0 ≤ p ∧ p ≤ 1000000000) ∧ (0 ≤ r ∧ r ≤ 1000000000)
  | .gone n => Good n
  | .wth a b => Good a ∧ Good b ∧ a ≠ b
  | .apart a b => Good a ∧ Good b ∧ a ≠ b
structure Row where
  num : Int
  heard : Int
  first : Int
  last : Int
  fact : Fact
  deriving DecidableEq
def Row.d (r : Row) : D := .tup [.int r.num, .int r.heard, .int r.first, .int r.last, r.fact.d]
structure Row.Ok (r : Row) : Prop where
  num : 0 ≤ r.num ∧ r.num ≤ 1000000000
  heard : 0 ≤ r.heard ∧ r.heard ≤ 23
  first : 0 ≤ r.first ∧ r.first ≤ 23
  last : 0 ≤ r.last ∧ r.last ≤ 23
  span : r.first ≤ r.last
  fact : r.fact.ok
theorem ne1 : ¬ ("gone" : Str) = "is" := by decide +kernel
theorem ne2 : ¬ ("with" : Str) = "is" := by decide +kernel
theorem ne3 : ¬ ("apart" : Str) = "is" := by decide +kernel
theorem ne4 : ¬ ("is" : Str) = "gone" := by decide +kernel
theorem ne5 : ¬ ("with" : Str) = "gone" := by decide +kernel
theorem ne6 : ¬ ("apart" : Str) = "gone" := by decide +kernel
theorem ne7 : ¬ ("apart" : Str) = "with" := by decide +kernel
theorem person_ok {k : Nat} {n : Str} {a p r : Int} {O : Os} (g : Good n) (ha : 0 ≤ a ∧ a ≤ 150) (hp : 0 ≤ p ∧ p ≤ 1000000000) (hr : 0 ≤ r ∧ r ≤ 1000000000) : Pu.run Q (k + 2) i_person [.sh (.str n), .sh (.int a), .sh (.int p), .sh (.int r)] O = .ok (.tup [.str n, .int a, .int p, .int r]) .shr O := by
  rw [run_at (d := f_person) rfl rfl]
  simp only [f_person, b_f_person, Pu.begin_, List.map_cons, List.map_nil, List.drop_nil, List.append_nil, List.nil_append, List.replicate, List.cons_append, e_v, e_k, e_g, e_tup, e_lst, e_dct0, e_bin, e_neg, e_nt, e_an, e_or, e_cmp, e_cmp2, e_call, e_mk, e_meth, e_bi, e_fld, e_ix, e_sl, e_ife, e_isx, e_dl, x_asg, x_par, x_fld, x_sub, x_retN, x_pass, x_ite, x_rse, x_try, x_tryn, x_frz, r_k, r_tup, r_lst, r_bin, r_neg, r_nt, r_an, r_or, r_cmp, r_cmp2, r_call, r_mk, r_meth, r_bi, r_ix, r_sl, r_ife, r_g, r_fld, r_comp, r_compR, r_dl, r_dct0, x_exC, x_exM, x_bm, x_retV, b_nil, b_cons, l_nil, l_cons, a_one, a_cons, o_one, o_cons, p_none, p_some, c_none, c_some, bi_ok, bi_exc, bl_ok, bl_exc, lb_ok, lb_exc, th_ok, th_exc, lt_ok, lt_exc, se_nx, se_rt, se_exc, en_nx, en_rt, en_exc, op_shr, op_fr, of_t, of_f, cur_shr, cur_fr, cur_ho, cur_hb, cur_hf, curs_nil, curs_cons, Pu.frz1, Pu.Fl.free, sh_nil, sh_shr, putAt_ho, putAt_fr, bmf_clr, bmf_clrD, bmf_rev, nsts_ho, nsts_fr, nsts_shr, nsts_hb, nsts_hf, ta_nil, ta_shr, ta_ho, ta_hb, ta_hf, Pu.asn, Pu.asn.asns, Pu.wipeS, Pu.frzS, Pu.frz1S, Pu.bfn, Pu.bmT, Pu.dlf, Pu.kOf, bo_add, bo_sub, Pu.cmpo, Pu.truthy, Pu.isTy, Pu.isN, eq_ii, eq_ss, eq_bb, eq_nn, eq_is, eq_si, eq_ni, eq_in, eq_ns, eq_sn, eq_nb, eq_bn, eq_bs, eq_sb, Pu.item, i_0, i_1, i_2, i_3, i_4, Pu.iter, Pu.okIt, Pu.dOf, Pu.dOfs, List.set_cons_zero, List.set_cons_succ, List.getElem?_cons_zero, List.getElem?_cons_succ, List.length_cons, List.length_nil, Option.bind_some, Option.map_some, Option.isSome_some, Option.bind_none, Option.map_none, Option.getD_some, Bool.not_true, Bool.not_false, Va.str.injEq, Va.int.injEq, Va.bl.injEq, Bool.false_eq_true, Bool.true_and, Bool.and_true, Bool.false_and, Bool.and_false, decide_true, decide_false, if_true, if_false, ite_true, ite_false, reduceCtorEq, and_self, true_and, and_true, gls, is_name_ok g, is_within_ok ha.1 ha.2, is_within_ok hp.1 hp.2, is_within_ok hr.1 hr.2]
theorem is_of_person_ok {k : Nat} {n : Str} {a p r : Int} {O : Os} (g : Good n) (ha : 0 ≤ a ∧ a ≤ 150) (hp : 0 ≤ p ∧ p ≤ 1000000000) (hr : 0 ≤ r ∧ r ≤ 1000000000) : Pu.run Q (k + 3) i_is_of_person [.sh (Fact.is n a p r).d] O = .ok (.bl true) .shr O := by
  rw [run_at (d := f_is_of_person) rfl rfl]
  simp only [f_is_of_person, b_f_is_of_person, Fact.d, Pu.begin_, List.map_cons, List.map_nil, List.drop_nil, List.append_nil, List.nil_append, List.replicate, List.cons_append, e_v, e_k, e_g, e_tup, e_lst, e_dct0, e_bin, e_neg, e_nt, e_an, e_or, e_cmp, e_cmp2, e_call, e_mk, e_meth, e_bi, e_fld, e_ix, e_sl, e_ife, e_isx, e_dl, x_asg, x_par, x_fld, x_sub, x_retN, x_pass, x_ite, x_rse, x_try, x_tryn, x_frz, r_k, r_tup, r_lst, r_bin, r_neg, r_nt, r_an, r_or, r_cmp, r_cmp2, r_call, r_mk, r_meth, r_bi, r_ix, r_sl, r_ife, r_g, r_fld, r_comp, r_compR, r_dl, r_dct0, x_exC, x_exM, x_bm, x_retV, b_nil, b_cons, l_nil, l_cons, a_one, a_cons, o_one, o_cons, p_none, p_some, c_none, c_some, bi_ok, bi_exc, bl_ok, bl_exc, lb_ok, lb_exc, th_ok, th_exc, lt_ok, lt_exc, se_nx, se_rt, se_exc, en_nx, en_rt, en_exc, op_shr, op_fr, of_t, of_f, cur_shr, cur_fr, cur_ho, cur_hb, cur_hf, curs_nil, curs_cons, Pu.frz1, Pu.Fl.free, sh_nil, sh_shr, putAt_ho, putAt_fr, bmf_clr, bmf_clrD, bmf_rev, nsts_ho, nsts_fr, nsts_shr, nsts_hb, nsts_hf, ta_nil, ta_shr, ta_ho, ta_hb, ta_hf, Pu.asn, Pu.asn.asns, Pu.wipeS, Pu.frzS, Pu.frz1S, Pu.bfn, Pu.bmT, Pu.dlf, Pu.kOf, bo_add, bo_sub, Pu.cmpo, Pu.truthy, Pu.isTy, Pu.isN, eq_ii, eq_ss, eq_bb, eq_nn, eq_is, eq_si, eq_ni, eq_in, eq_ns, eq_sn, eq_nb, eq_bn, eq_bs, eq_sb, Pu.item, i_0, i_1, i_2, i_3, i_4, Pu.iter, Pu.okIt, Pu.dOf, Pu.dOfs, List.set_cons_zero, List.set_cons_succ, List.getElem?_cons_zero, List.getElem?_cons_succ, List.length_cons, List.length_nil, Option.bind_some, Option.map_some, Option.isSome_some, Option.bind_none, Option.map_none, Option.getD_some, Bool.not_true, Bool.not_false, Va.str.injEq, Va.int.injEq, Va.bl.injEq, Bool.false_eq_true, Bool.true_and, Bool.and_true, Bool.false_and, Bool.and_false, decide_true, decide_false, if_true, if_false, ite_true, ite_false, reduceCtorEq, and_self, true_and, and_true, gls, person_ok g ha hp hr]
theorem is_fact_ok {k : Nat} {f : Fact} {O : Os} (g : f.ok) : Pu.run Q (k + 4) i_is_fact [.sh f.d] O = .ok (.bl true) .shr O := by
  rw [run_at (d := f_is_fact) rfl rfl]
  cases f with
  | is n a p r =>
    have z := is_of_person_ok (k := k) (O := O) g.1 g.2.1 g.2.2.1 g.2.2.2
    unfold Fact.d at z
    simp only [f_is_fact, b_f_is_fact, Fact.d, Pu.begin_, List.map_cons, List.map_nil, List.drop_nil, List.append_nil, List.nil_append, List.replicate, List.cons_append, e_v, e_k, e_g, e_tup, e_lst, e_dct0, e_bin, e_neg, e_nt, e_an, e_or, e_cmp, e_cmp2, e_call, e_mk, e_meth, e_bi, e_fld, e_ix, e_sl, e_ife, e_isx, e_dl, x_asg, x_par, x_fld, x_sub, x_retN, x_pass, x_ite, x_rse, x_try, x_tryn, x_frz, r_k, r_tup, r_lst, r_bin, r_neg, r_nt, r_an, r_or, r_cmp, r_cmp2, r_call, r_mk, r_meth, r_bi, r_ix, r_sl, r_ife, r_g, r_fld, r_comp, r_compR, r_dl, r_dct0, x_exC, x_exM, x_bm, x_retV, b_nil, b_cons, l_nil, l_cons, a_one, a_cons, o_one, o_cons, p_none, p_some, c_none, c_some, bi_ok, bi_exc, bl_ok, bl_exc, lb_ok, lb_exc, th_ok, th_exc, lt_ok, lt_exc, se_nx, se_rt, se_exc, en_nx, en_rt, en_exc, op_shr, op_fr, of_t, of_f, cur_shr, cur_fr, cur_ho, cur_hb, cur_hf, curs_nil, curs_cons, Pu.frz1, Pu.Fl.free, sh_nil, sh_shr, putAt_ho, putAt_fr, bmf_clr, bmf_clrD, bmf_rev, nsts_ho, nsts_fr, nsts_shr, nsts_hb, nsts_hf, ta_nil, ta_shr, ta_ho, ta_hb, ta_hf, Pu.asn, Pu.asn.asns, Pu.wipeS, Pu.frzS, Pu.frz1S, Pu.bfn, Pu.bmT, Pu.dlf, Pu.kOf, bo_add, bo_sub, Pu.cmpo, Pu.truthy, Pu.isTy, Pu.isN, eq_ii, eq_ss, eq_bb, eq_nn, eq_is, eq_si, eq_ni, eq_in, eq_ns, eq_sn, eq_nb, eq_bn, eq_bs, eq_sb, Pu.item, i_0, i_1, i_2, i_3, i_4, Pu.iter, Pu.okIt, Pu.dOf, Pu.dOfs, List.set_cons_zero, List.set_cons_succ, List.getElem?_cons_zero, List.getElem?_cons_succ, List.length_cons, List.length_nil, Option.bind_some, Option.map_some, Option.isSome_some, Option.bind_none, Option.map_none, Option.getD_some, Bool.not_true, Bool.not_false, Va.str.injEq, Va.int.injEq, Va.bl.injEq, Bool.false_eq_true, Bool.true_and, Bool.and_true, Bool.false_and, Bool.and_false, decide_true, decide_false, if_true, if_false, ite_true, ite_false, reduceCtorEq, and_self, true_and, and_true, gls]
    all_goals simp [e_v, e_k, e_g, e_tup, e_lst, e_dct0, e_bin, e_neg, e_nt, e_an, e_or, e_cmp, e_cmp2, e_call, e_mk, e_meth, e_bi, e_fld, e_ix, e_sl, e_ife, e_isx, e_dl, x_asg, x_par, x_fld, x_sub, x_retN, x_pass, x_ite, x_rse, x_try, x_tryn, x_frz, r_k, r_tup, r_lst, r_bin, r_neg, r_nt, r_an, r_or, r_cmp, r_cmp2, r_call, r_mk, r_meth, r_bi, r_ix, r_sl, r_ife, r_g, r_fld, r_comp, r_compR, r_dl, r_dct0, x_exC, x_exM, x_bm, x_retV, b_nil, b_cons, l_nil, l_cons, a_one, a_cons, o_one, o_cons, p_none, p_some, c_none, c_some, bi_ok, bi_exc, bl_ok, bl_exc, lb_ok, lb_exc, th_ok, th_exc, lt_ok, lt_exc, se_nx, se_rt, se_exc, en_nx, en_rt, en_exc, op_shr, op_fr, of_t, of_f, cur_shr, cur_fr, cur_ho, cur_hb, cur_hf, curs_nil, curs_cons, Pu.frz1, Pu.Fl.free, sh_nil, sh_shr, putAt_ho, putAt_fr, bmf_clr, bmf_clrD, bmf_rev, nsts_ho, nsts_fr, nsts_shr, nsts_hb, nsts_hf, ta_nil, ta_shr, ta_ho, ta_hb, ta_hf, Pu.asn, Pu.asn.asns, Pu.wipeS, Pu.frzS, Pu.frz1S, Pu.bfn, Pu.bmT, Pu.dlf, Pu.kOf, bo_add, bo_sub, Pu.cmpo, Pu.truthy, Pu.isTy, Pu.isN, eq_ii, eq_ss, eq_bb, eq_nn, eq_is, eq_si, eq_ni, eq_in, eq_ns, eq_sn, eq_nb, eq_bn, eq_bs, eq_sb, Pu.item, i_0, i_1, i_2, i_3, i_4, Pu.iter, Pu.okIt, Pu.dOf, Pu.dOfs, List.set_cons_zero, List.set_cons_succ, List.getElem?_cons_zero, List.getElem?_cons_succ, List.length_cons, List.length_nil, Option.bind_some, Option.map_some, Option.isSome_some, Option.bind_none, Option.map_none, Option.getD_some, Bool.not_true, Bool.not_false, Va.str.injEq, Va.int.injEq, Va.bl.injEq, Bool.false_eq_true, Bool.true_and, Bool.and_true, Bool.false_and, Bool.and_false, decide_true, decide_false, if_true, if_false, ite_true, ite_false, reduceCtorEq, and_self, true_and, and_true, z]
  | gone n =>
    simp only [f_is_fact, b_f_is_fact, Fact.d, Pu.begin_, List.map_cons, List.map_nil, List.drop_nil, List.append_nil, List.nil_append, List.replicate, List.cons_append, e_v, e_k, e_g, e_tup, e_lst, e_dct0, e_bin, e_neg, e_nt, e_an, e_or, e_cmp, e_cmp2, e_call, e_mk, e_meth, e_bi, e_fld, e_ix, e_sl, e_ife, e_isx, e_dl, x_asg, x_par, x_fld, x_sub, x_retN, x_pass, x_ite, x_rse, x_try, x_tryn, x_frz, r_k, r_tup, r_lst, r_bin, r_neg, r_nt, r_an, r_or, r_cmp, r_cmp2, r_call, r_mk, r_meth, r_bi, r_ix, r_sl, r_ife, r_g, r_fld, r_comp, r_compR, r_dl, r_dct0, x_exC, x_exM, x_bm, x_retV, b_nil, b_cons, l_nil, l_cons, a_one, a_cons, o_one, o_cons, p_none, p_some, c_none, c_some, bi_ok, bi_exc, bl_ok, bl_exc, lb_ok, lb_exc, th_ok, th_exc, lt_ok, lt_exc, se_nx, se_rt, se_exc, en_nx, en_rt, en_exc, op_shr, op_fr, of_t, of_f, cur_shr, cur_fr, cur_ho, cur_hb, cur_hf, curs_nil, curs_cons, Pu.frz1, Pu.Fl.free, sh_nil, sh_shr, putAt_ho, putAt_fr, bmf_clr, bmf_clrD, bmf_rev, nsts_ho, nsts_fr, nsts_shr, nsts_hb, nsts_hf, ta_nil, ta_shr, ta_ho, ta_hb, ta_hf, Pu.asn, Pu.asn.asns, Pu.wipeS, Pu.frzS, Pu.frz1S, Pu.bfn, Pu.bmT, Pu.dlf, Pu.kOf, bo_add, bo_sub, Pu.cmpo, Pu.truthy, Pu.isTy, Pu.isN, eq_ii, eq_ss, eq_bb, eq_nn, eq_is, eq_si, eq_ni, eq_in, eq_ns, eq_sn, eq_nb, eq_bn, eq_bs, eq_sb, Pu.item, i_0, i_1, i_2, i_3, i_4, Pu.iter, Pu.okIt, Pu.dOf, Pu.dOfs, List.set_cons_zero, List.set_cons_succ, List.getElem?_cons_zero, List.getElem?_cons_succ, List.length_cons, List.length_nil, Option.bind_some, Option.map_some, Option.isSome_some, Option.bind_none, Option.map_none, Option.getD_some, Bool.not_true, Bool.not_false, Va.str.injEq, Va.int.injEq, Va.bl.injEq, Bool.false_eq_true, Bool.true_and, Bool.and_true, Bool.false_and, Bool.and_false, decide_true, decide_false, if_true, if_false, ite_true, ite_false, reduceCtorEq, and_self, true_and, and_true, gls]
    all_goals simp [e_v, e_k, e_g, e_tup, e_lst, e_dct0, e_bin, e_neg, e_nt, e_an, e_or, e_cmp, e_cmp2, e_call, e_mk, e_meth, e_bi, e_fld, e_ix, e_sl, e_ife, e_isx, e_dl, x_asg, x_par, x_fld, x_sub, x_retN, x_pass, x_ite, x_rse, x_try, x_tryn, x_frz, r_k, r_tup, r_lst, r_bin, r_neg, r_nt, r_an, r_or, r_cmp, r_cmp2, r_call, r_mk, r_meth, r_bi, r_ix, r_sl, r_ife, r_g, r_fld, r_comp, r_compR, r_dl, r_dct0, x_exC, x_exM, x_bm, x_retV, b_nil, b_cons, l_nil, l_cons, a_one, a_cons, o_one, o_cons, p_none, p_some, c_none, c_some, bi_ok, bi_exc, bl_ok, bl_exc, lb_ok, lb_exc, th_ok, th_exc, lt_ok, lt_exc, se_nx, se_rt, se_exc, en_nx, en_rt, en_exc, op_shr, op_fr, of_t, of_f, cur_shr, cur_fr, cur_ho, cur_hb, cur_hf, curs_nil, curs_cons, Pu.frz1, Pu.Fl.free, sh_nil, sh_shr, putAt_ho, putAt_fr, bmf_clr, bmf_clrD, bmf_rev, nsts_ho, nsts_fr, nsts_shr, nsts_hb, nsts_hf, ta_nil, ta_shr, ta_ho, ta_hb, ta_hf, Pu.asn, Pu.asn.asns, Pu.wipeS, Pu.frzS, Pu.frz1S, Pu.bfn, Pu.bmT, Pu.dlf, Pu.kOf, bo_add, bo_sub, Pu.cmpo, Pu.truthy, Pu.isTy, Pu.isN, eq_ii, eq_ss, eq_bb, eq_nn, eq_is, eq_si, eq_ni, eq_in, eq_ns, eq_sn, eq_nb, eq_bn, eq_bs, eq_sb, Pu.item, i_0, i_1, i_2, i_3, i_4, Pu.iter, Pu.okIt, Pu.dOf, Pu.dOfs, List.set_cons_zero, List.set_cons_succ, List.getElem?_cons_zero, List.getElem?_cons_succ, List.length_cons, List.length_nil, Option.bind_some, Option.map_some, Option.isSome_some, Option.bind_none, Option.map_none, Option.getD_some, Bool.not_true, Bool.not_false, Va.str.injEq, Va.int.injEq, Va.bl.injEq, Bool.false_eq_true, Bool.true_and, Bool.and_true, Bool.false_and, Bool.and_false, decide_true, decide_false, if_true, if_false, ite_true, ite_false, reduceCtorEq, and_self, true_and, and_true, ne1, is_name_ok (show Good n from g)]
  | wth a b =>
    simp only [f_is_fact, b_f_is_fact, Fact.d, Pu.begin_, List.map_cons, List.map_nil, List.drop_nil, List.append_nil, List.nil_append, List.replicate, List.cons_append, e_v, e_k, e_g, e_tup, e_lst, e_dct0, e_bin, e_neg, e_nt, e_an, e_or, e_cmp, e_cmp2, e_call, e_mk, e_meth, e_bi, e_fld, e_ix, e_sl, e_ife, e_isx, e_dl, x_asg, x_par, x_fld, x_sub, x_retN, x_pass, x_ite, x_rse, x_try, x_tryn, x_frz, r_k, r_tup, r_lst, r_bin, r_neg, r_nt, r_an, r_or, r_cmp, r_cmp2, r_call, r_mk, r_meth, r_bi, r_ix, r_sl, r_ife, r_g, r_fld, r_comp, r_compR, r_dl, r_dct0, x_exC, x_exM, x_bm, x_retV, b_nil, b_cons, l_nil, l_cons, a_one, a_cons, o_one, o_cons, p_none, p_some, c_none, c_some, bi_ok, bi_exc, bl_ok, bl_exc, lb_ok, lb_exc, th_ok, th_exc, lt_ok, lt_exc, se_nx, se_rt, se_exc, en_nx, en_rt, en_exc, op_shr, op_fr, of_t, of_f, cur_shr, cur_fr, cur_ho, cur_hb, cur_hf, curs_nil, curs_cons, Pu.frz1, Pu.Fl.free, sh_nil, sh_shr, putAt_ho, putAt_fr, bmf_clr, bmf_clrD, bmf_rev, nsts_ho, nsts_fr, nsts_shr, nsts_hb, nsts_hf, ta_nil, ta_shr, ta_ho, ta_hb, ta_hf, Pu.asn, Pu.asn.asns, Pu.wipeS, Pu.frzS, Pu.frz1S, Pu.bfn, Pu.bmT, Pu.dlf, Pu.kOf, bo_add, bo_sub, Pu.cmpo, Pu.truthy, Pu.isTy, Pu.isN, eq_ii, eq_ss, eq_bb, eq_nn, eq_is, eq_si, eq_ni, eq_in, eq_ns, eq_sn, eq_nb, eq_bn, eq_bs, eq_sb, Pu.item, i_0, i_1, i_2, i_3, i_4, Pu.iter, Pu.okIt, Pu.dOf, Pu.dOfs, List.set_cons_zero, List.set_cons_succ, List.getElem?_cons_zero, List.getElem?_cons_succ, List.length_cons, List.length_nil, Option.bind_some, Option.map_some, Option.isSome_some, Option.bind_none, Option.map_none, Option.getD_some, Bool.not_true, Bool.not_false, Va.str.injEq, Va.int.injEq, Va.bl.injEq, Bool.false_eq_true, Bool.true_and, Bool.and_true, Bool.false_and, Bool.and_false, decide_true, decide_false, if_true, if_false, ite_true, ite_false, reduceCtorEq, and_self, true_and, and_true, gls]
    all_goals simp [e_v, e_k, e_g, e_tup, e_lst, e_dct0, e_bin, e_neg, e_nt, e_an, e_or, e_cmp, e_cmp2, e_call, e_mk, e_meth, e_bi, e_fld, e_ix, e_sl, e_ife, e_isx, e_dl, x_asg, x_par, x_fld, x_sub, x_retN, x_pass, x_ite, x_rse, x_try, x_tryn, x_frz, r_k, r_tup, r_lst, r_bin, r_neg, r_nt, r_an, r_or, r_cmp, r_cmp2, r_call, r_mk, r_meth, r_bi, r_ix, r_sl, r_ife, r_g, r_fld, r_comp, r_compR, r_dl, r_dct0, x_exC, x_exM, x_bm, x_retV, b_nil, b_cons, l_nil, l_cons, a_one, a_cons, o_one, o_cons, p_none, p_some, c_none, c_some, bi_ok, bi_exc, bl_ok, bl_exc, lb_ok, lb_exc, th_ok, th_exc, lt_ok, lt_exc, se_nx, se_rt, se_exc, en_nx, en_rt, en_exc, op_shr, op_fr, of_t, of_f, cur_shr, cur_fr, cur_ho, cur_hb, cur_hf, curs_nil, curs_cons, Pu.frz1, Pu.Fl.free, sh_nil, sh_shr, putAt_ho, putAt_fr, bmf_clr, bmf_clrD, bmf_rev, nsts_ho, nsts_fr, nsts_shr, nsts_hb, nsts_hf, ta_nil, ta_shr, ta_ho, ta_hb, ta_hf, Pu.asn, Pu.asn.asns, Pu.wipeS, Pu.frzS, Pu.frz1S, Pu.bfn, Pu.bmT, Pu.dlf, Pu.kOf, bo_add, bo_sub, Pu.cmpo, Pu.truthy, Pu.isTy, Pu.isN, eq_ii, eq_ss, eq_bb, eq_nn, eq_is, eq_si, eq_ni, eq_in, eq_ns, eq_sn, eq_nb, eq_bn, eq_bs, eq_sb, Pu.item, i_0, i_1, i_2, i_3, i_4, Pu.iter, Pu.okIt, Pu.dOf, Pu.dOfs, List.set_cons_zero, List.set_cons_succ, List.getElem?_cons_zero, List.getElem?_cons_succ, List.length_cons, List.length_nil, Option.bind_some, Option.map_some, Option.isSome_some, Option.bind_none, Option.map_none, Option.getD_some, Bool.not_true, Bool.not_false, Va.str.injEq, Va.int.injEq, Va.bl.injEq, Bool.false_eq_true, Bool.true_and, Bool.and_true, Bool.false_and, Bool.and_false, decide_true, decide_false, if_true, if_false, ite_true, ite_false, reduceCtorEq, and_self, true_and, and_true, is_name_ok g.1, is_name_ok g.2.1, g.2.2]
  | apart a b =>
    simp only [f_is_fact, b_f_is_fact, Fact.d, Pu.begin_, List.map_cons, List.map_nil, List.drop_nil, List.append_nil, List.nil_append, List.replicate, List.cons_append, e_v, e_k, e_g, e_tup, e_lst, e_dct0, e_bin, e_neg, e_nt, e_an, e_or, e_cmp, e_cmp2, e_call, e_mk, e_meth, e_bi, e_fld, e_ix, e_sl, e_ife, e_isx, e_dl, x_asg, x_par, x_fld, x_sub, x_retN, x_pass, x_ite, x_rse, x_try, x_tryn, x_frz, r_k, r_tup, r_lst, r_bin, r_neg, r_nt, r_an, r_or, r_cmp, r_cmp2, r_call, r_mk, r_meth, r_bi, r_ix, r_sl, r_ife, r_g, r_fld, r_comp, r_compR, r_dl, r_dct0, x_exC, x_exM, x_bm, x_retV, b_nil, b_cons, l_nil, l_cons, a_one, a_cons, o_one, o_cons, p_none, p_some, c_none, c_some, bi_ok, bi_exc, bl_ok, bl_exc, lb_ok, lb_exc, th_ok, th_exc, lt_ok, lt_exc, se_nx, se_rt, se_exc, en_nx, en_rt, en_exc, op_shr, op_fr, of_t, of_f, cur_shr, cur_fr, cur_ho, cur_hb, cur_hf, curs_nil, curs_cons, Pu.frz1, Pu.Fl.free, sh_nil, sh_shr, putAt_ho, putAt_fr, bmf_clr, bmf_clrD, bmf_rev, nsts_ho, nsts_fr, nsts_shr, nsts_hb, nsts_hf, ta_nil, ta_shr, ta_ho, ta_hb, ta_hf, Pu.asn, Pu.asn.asns, Pu.wipeS, Pu.frzS, Pu.frz1S, Pu.bfn, Pu.bmT, Pu.dlf, Pu.kOf, bo_add, bo_sub, Pu.cmpo, Pu.truthy, Pu.isTy, Pu.isN, eq_ii, eq_ss, eq_bb, eq_nn, eq_is, eq_si, eq_ni, eq_in, eq_ns, eq_sn, eq_nb, eq_bn, eq_bs, eq_sb, Pu.item, i_0, i_1, i_2, i_3, i_4, Pu.iter, Pu.okIt, Pu.dOf, Pu.dOfs, List.set_cons_zero, List.set_cons_succ, List.getElem?_cons_zero, List.getElem?_cons_succ, List.length_cons, List.length_nil, Option.bind_some, Option.map_some, Option.isSome_some, Option.bind_none, Option.map_none, Option.getD_some, Bool.not_true, Bool.not_false, Va.str.injEq, Va.int.injEq, Va.bl.injEq, Bool.false_eq_true, Bool.true_and, Bool.and_true, Bool.false_and, Bool.and_false, decide_true, decide_false, if_true, if_false, ite_true, ite_false, reduceCtorEq, and_self, true_and, and_true, gls]
    all_goals simp [e_v, e_k, e_g, e_tup, e_lst, e_dct0, e_bin, e_neg, e_nt, e_an, e_or, e_cmp, e_cmp2, e_call, e_mk, e_meth, e_bi, e_fld, e_ix, e_sl, e_ife, e_isx, e_dl, x_asg, x_par, x_fld, x_sub, x_retN, x_pass, x_ite, x_rse, x_try, x_tryn, x_frz, r_k, r_tup, r_lst, r_bin, r_neg, r_nt, r_an, r_or, r_cmp, r_cmp2, r_call, r_mk, r_meth, r_bi, r_ix, r_sl, r_ife, r_g, r_fld, r_comp, r_compR, r_dl, r_dct0, x_exC, x_exM, x_bm, x_retV, b_nil, b_cons, l_nil, l_cons, a_one, a_cons, o_one, o_cons, p_none, p_some, c_none, c_some, bi_ok, bi_exc, bl_ok, bl_exc, lb_ok, lb_exc, th_ok, th_exc, lt_ok, lt_exc, se_nx, se_rt, se_exc, en_nx, en_rt, en_exc, op_shr, op_fr, of_t, of_f, cur_shr, cur_fr, cur_ho, cur_hb, cur_hf, curs_nil, curs_cons, Pu.frz1, Pu.Fl.free, sh_nil, sh_shr, putAt_ho, putAt_fr, bmf_clr, bmf_clrD, bmf_rev, nsts_ho, nsts_fr, nsts_shr, nsts_hb, nsts_hf, ta_nil, ta_shr, ta_ho, ta_hb, ta_hf, Pu.asn, Pu.asn.asns, Pu.wipeS, Pu.frzS, Pu.frz1S, Pu.bfn, Pu.bmT, Pu.dlf, Pu.kOf, bo_add, bo_sub, Pu.cmpo, Pu.truthy, Pu.isTy, Pu.isN, eq_ii, eq_ss, eq_bb, eq_nn, eq_is, eq_si, eq_ni, eq_in, eq_ns, eq_sn, eq_nb, eq_bn, eq_bs, eq_sb, Pu.item, i_0, i_1, i_2, i_3, i_4, Pu.iter, Pu.okIt, Pu.dOf, Pu.dOfs, List.set_cons_zero, List.set_cons_succ, List.getElem?_cons_zero, List.getElem?_cons_succ, List.length_cons, List.length_nil, Option.bind_some, Option.map_some, Option.isSome_some, Option.bind_none, Option.map_none, Option.getD_some, Bool.not_true, Bool.not_false, Va.str.injEq, Va.int.injEq, Va.bl.injEq, Bool.false_eq_true, Bool.true_and, Bool.and_true, Bool.false_and, Bool.and_false, decide_true, decide_false, if_true, if_false, ite_true, ite_false, reduceCtorEq, and_self, true_and, and_true, ne7, is_name_ok g.1, is_name_ok g.2.1, g.2.2]
theorem news_ok {k : Nat} {r : Row} {O : Os} (g : r.Ok) : Pu.run Q (k + 5) i_news [.sh (.int r.num), .sh (.int r.heard), .sh (.int r.first), .sh (.int r.last), .sh r.fact.d] O = .ok r.d .shr O := by
  rw [run_at (d := f_news) rfl rfl]
  have hsp : ¬ r.last < r.first := by have := g.span; omega
  simp only [f_news, b_f_news, Pu.begin_, List.map_cons, List.map_nil, List.drop_nil, List.append_nil, List.nil_append, List.replicate, List.cons_append, e_v, e_k, e_g, e_tup, e_lst, e_dct0, e_bin, e_neg, e_nt, e_an, e_or, e_cmp, e_cmp2, e_call, e_mk, e_meth, e_bi, e_fld, e_ix, e_sl, e_ife, e_isx, e_dl, x_asg, x_par, x_fld, x_sub, x_retN, x_pass, x_ite, x_rse, x_try, x_tryn, x_frz, r_k, r_tup, r_lst, r_bin, r_neg, r_nt, r_an, r_or, r_cmp, r_cmp2, r_call, r_mk, r_meth, r_bi, r_ix, r_sl, r_ife, r_g, r_fld, r_comp, r_compR, r_dl, r_dct0, x_exC, x_exM, x_bm, x_retV, b_nil, b_cons, l_nil, l_cons, a_one, a_cons, o_one, o_cons, p_none, p_some, c_none, c_some, bi_ok, bi_exc, bl_ok, bl_exc, lb_ok, lb_exc, th_ok, th_exc, lt_ok, lt_exc, se_nx, se_rt, se_exc, en_nx, en_rt, en_exc, op_shr, op_fr, of_t, of_f, cur_shr, cur_fr, cur_ho, cur_hb, cur_hf, curs_nil, curs_cons, Pu.frz1, Pu.Fl.free, sh_nil, sh_shr, putAt_ho, putAt_fr, bmf_clr, bmf_clrD, bmf_rev, nsts_ho, nsts_fr, nsts_shr, nsts_hb, nsts_hf, ta_nil, ta_shr, ta_ho, ta_hb, ta_hf, Pu.asn, Pu.asn.asns, Pu.wipeS, Pu.frzS, Pu.frz1S, Pu.bfn, Pu.bmT, Pu.dlf, Pu.kOf, bo_add, bo_sub, Pu.cmpo, Pu.truthy, Pu.isTy, Pu.isN, eq_ii, eq_ss, eq_bb, eq_nn, eq_is, eq_si, eq_ni, eq_in, eq_ns, eq_sn, eq_nb, eq_bn, eq_bs, eq_sb, Pu.item, i_0, i_1, i_2, i_3, i_4, Pu.iter, Pu.okIt, Pu.dOf, Pu.dOfs, List.set_cons_zero, List.set_cons_succ, List.getElem?_cons_zero, List.getElem?_cons_succ, List.length_cons, List.length_nil, Option.bind_some, Option.map_some, Option.isSome_some, Option.bind_none, Option.map_none, Option.getD_some, Bool.not_true, Bool.not_false, Va.str.injEq, Va.int.injEq, Va.bl.injEq, Bool.false_eq_true, Bool.true_and, Bool.and_true, Bool.false_and, Bool.and_false, decide_true, decide_false, if_true, if_false, ite_true, ite_false, reduceCtorEq, and_self, true_and, and_true, gls, is_whole_to_ok g.num.1 g.num.2, is_whole_to_ok g.heard.1 g.heard.2, is_whole_to_ok g.first.1 g.first.2, is_whole_to_ok g.last.1 g.last.2, is_fact_ok g.fact, hsp, Row.d]
theorem matter_ok {k : Nat} {f : Fact} {O : Os} : Pu.run Q (k + 1) i_matter [.sh f.d] O = .ok f.mat .shr O := by
  rw [run_at (d := f_matter) rfl rfl]
  cases f with
  | is n a p r =>
    simp only [f_matter, b_f_matter, Fact.d, Fact.mat, Fact.about, Pu.begin_, List.map_cons, List.map_nil, List.drop_nil, List.append_nil, List.nil_append, List.replicate, List.cons_append, e_v, e_k, e_g, e_tup, e_lst, e_dct0, e_bin, e_neg, e_nt, e_an, e_or, e_cmp, e_cmp2, e_call, e_mk, e_meth, e_bi, e_fld, e_ix, e_sl, e_ife, e_isx, e_dl, x_asg, x_par, x_fld, x_sub, x_retN, x_pass, x_ite, x_rse, x_try, x_tryn, x_frz, r_k, r_tup, r_lst, r_bin, r_neg, r_nt, r_an, r_or, r_cmp, r_cmp2, r_call, r_mk, r_meth, r_bi, r_ix, r_sl, r_ife, r_g, r_fld, r_comp, r_compR, r_dl, r_dct0, x_exC, x_exM, x_bm, x_retV, b_nil, b_cons, l_nil, l_cons, a_one, a_cons, o_one, o_cons, p_none, p_some, c_none, c_some, bi_ok, bi_exc, bl_ok, bl_exc, lb_ok, lb_exc, th_ok, th_exc, lt_ok, lt_exc, se_nx, se_rt, se_exc, en_nx, en_rt, en_exc, op_shr, op_fr, of_t, of_f, cur_shr, cur_fr, cur_ho, cur_hb, cur_hf, curs_nil, curs_cons, Pu.frz1, Pu.Fl.free, sh_nil, sh_shr, putAt_ho, putAt_fr, bmf_clr, bmf_clrD, bmf_rev, nsts_ho, nsts_fr, nsts_shr, nsts_hb, nsts_hf, ta_nil, ta_shr, ta_ho, ta_hb, ta_hf, Pu.asn, Pu.asn.asns, Pu.wipeS, Pu.frzS, Pu.frz1S, Pu.bfn, Pu.bmT, Pu.dlf, Pu.kOf, bo_add, bo_sub, Pu.cmpo, Pu.truthy, Pu.isTy, Pu.isN, eq_ii, eq_ss, eq_bb, eq_nn, eq_is, eq_si, eq_ni, eq_in, eq_ns, eq_sn, eq_nb, eq_bn, eq_bs, eq_sb, Pu.item, i_0, i_1, i_2, i_3, i_4, Pu.iter, Pu.okIt, Pu.dOf, Pu.dOfs, List.set_cons_zero, List.set_cons_succ, List.getElem?_cons_zero, List.getElem?_cons_succ, List.length_cons, List.length_nil, Option.bind_some, Option.map_some, Option.isSome_some, Option.bind_none, Option.map_none, Option.getD_some, Bool.not_true, Bool.not_false, Va.str.injEq, Va.int.injEq, Va.bl.injEq, Bool.false_eq_true, Bool.true_and, Bool.and_true, Bool.false_and, Bool.and_false, decide_true, decide_false, if_true, if_false, ite_true, ite_false, reduceCtorEq, and_self, true_and, and_true, gls]
    all_goals simp [e_v, e_k, e_g, e_tup, e_lst, e_dct0, e_bin, e_neg, e_nt, e_an, e_or, e_cmp, e_cmp2, e_call, e_mk, e_meth, e_bi, e_fld, e_ix, e_sl, e_ife, e_isx, e_dl, x_asg, x_par, x_fld, x_sub, x_retN, x_pass, x_ite, x_rse, x_try, x_tryn, x_frz, r_k, r_tup, r_lst, r_bin, r_neg, r_nt, r_an, r_or, r_cmp, r_cmp2, r_call, r_mk, r_meth, r_bi, r_ix, r_sl, r_ife, r_g, r_fld, r_comp, r_compR, r_dl, r_dct0, x_exC, x_exM, x_bm, x_retV, b_nil, b_cons, l_nil, l_cons, a_one, a_cons, o_one, o_cons, p_none, p_some, c_none, c_some, bi_ok, bi_exc, bl_ok, bl_exc, lb_ok, lb_exc, th_ok, th_exc, lt_ok, lt_exc, se_nx, se_rt, se_exc, en_nx, en_rt, en_exc, op_shr, op_fr, of_t, of_f, cur_shr, cur_fr, cur_ho, cur_hb, cur_hf, curs_nil, curs_cons, Pu.frz1, Pu.Fl.free, sh_nil, sh_shr, putAt_ho, putAt_fr, bmf_clr, bmf_clrD, bmf_rev, nsts_ho, nsts_fr, nsts_shr, nsts_hb, nsts_hf, ta_nil, ta_shr, ta_ho, ta_hb, ta_hf, Pu.asn, Pu.asn.asns, Pu.wipeS, Pu.frzS, Pu.frz1S, Pu.bfn, Pu.bmT, Pu.dlf, Pu.kOf, bo_add, bo_sub, Pu.cmpo, Pu.truthy, Pu.isTy, Pu.isN, eq_ii, eq_ss, eq_bb, eq_nn, eq_is, eq_si, eq_ni, eq_in, eq_ns, eq_sn, eq_nb, eq_bn, eq_bs, eq_sb, Pu.item, i_0, i_1, i_2, i_3, i_4, Pu.iter, Pu.okIt, Pu.dOf, Pu.dOfs, List.set_cons_zero, List.set_cons_succ, List.getElem?_cons_zero, List.getElem?_cons_succ, List.length_cons, List.length_nil, Option.bind_some, Option.map_some, Option.isSome_some, Option.bind_none, Option.map_none, Option.getD_some, Bool.not_true, Bool.not_false, Va.str.injEq, Va.int.injEq, Va.bl.injEq, Bool.false_eq_true, Bool.true_and, Bool.and_true, Bool.false_and, Bool.and_false, decide_true, decide_false, if_true, if_false, ite_true, ite_false, reduceCtorEq, and_self, true_and, and_true, Ky.d, At.d]
  | gone n =>
    simp only [f_matter, b_f_matter, Fact.d, Fact.mat, Fact.about, Pu.begin_, List.map_cons, List.map_nil, List.drop_nil, List.append_nil, List.nil_append, List.replicate, List.cons_append, e_v, e_k, e_g, e_tup, e_lst, e_dct0, e_bin, e_neg, e_nt, e_an, e_or, e_cmp, e_cmp2, e_call, e_mk, e_meth, e_bi, e_fld, e_ix, e_sl, e_ife, e_isx, e_dl, x_asg, x_par, x_fld, x_sub, x_retN, x_pass, x_ite, x_rse, x_try, x_tryn, x_frz, r_k, r_tup, r_lst, r_bin, r_neg, r_nt, r_an, r_or, r_cmp, r_cmp2, r_call, r_mk, r_meth, r_bi, r_ix, r_sl, r_ife, r_g, r_fld, r_comp, r_compR, r_dl, r_dct0, x_exC, x_exM, x_bm, x_retV, b_nil, b_cons, l_nil, l_cons, a_one, a_cons, o_one, o_cons, p_none, p_some, c_none, c_some, bi_ok, bi_exc, bl_ok, bl_exc, lb_ok, lb_exc, th_ok, th_exc, lt_ok, lt_exc, se_nx, se_rt, se_exc, en_nx, en_rt, en_exc, op_shr, op_fr, of_t, of_f, cur_shr, cur_fr, cur_ho, cur_hb, cur_hf, curs_nil, curs_cons, Pu.frz1, Pu.Fl.free, sh_nil, sh_shr, putAt_ho, putAt_fr, bmf_clr, bmf_clrD, bmf_rev, nsts_ho, nsts_fr, nsts_shr, nsts_hb, nsts_hf, ta_nil, ta_shr, ta_ho, ta_hb, ta_hf, Pu.asn, Pu.asn.asns, Pu.wipeS, Pu.frzS, Pu.frz1S, Pu.bfn, Pu.bmT, Pu.dlf, Pu.kOf, bo_add, bo_sub, Pu.cmpo, Pu.truthy, Pu.isTy, Pu.isN, eq_ii, eq_ss, eq_bb, eq_nn, eq_is, eq_si, eq_ni, eq_in, eq_ns, eq_sn, eq_nb, eq_bn, eq_bs, eq_sb, Pu.item, i_0, i_1, i_2, i_3, i_4, Pu.iter, Pu.okIt, Pu.dOf, Pu.dOfs, List.set_cons_zero, List.set_cons_succ, List.getElem?_cons_zero, List.getElem?_cons_succ, List.length_cons, List.length_nil, Option.bind_some, Option.map_some, Option.isSome_some, Option.bind_none, Option.map_none, Option.getD_some, Bool.not_true, Bool.not_false, Va.str.injEq, Va.int.injEq, Va.bl.injEq, Bool.false_eq_true, Bool.true_and, Bool.and_true, Bool.false_and, Bool.and_false, decide_true, decide_false, if_true, if_false, ite_true, ite_false, reduceCtorEq, and_self, true_and, and_true, gls]
    all_goals simp [e_v, e_k, e_g, e_tup, e_lst, e_dct0, e_bin, e_neg, e_nt, e_an, e_or, e_cmp, e_cmp2, e_call, e_mk, e_meth, e_bi, e_fld, e_ix, e_sl, e_ife, e_isx, e_dl, x_asg, x_par, x_fld, x_sub, x_retN, x_pass, x_ite, x_rse, x_try, x_tryn, x_frz, r_k, r_tup, r_lst, r_bin, r_neg, r_nt, r_an, r_or, r_cmp, r_cmp2, r_call, r_mk, r_meth, r_bi, r_ix, r_sl, r_ife, r_g, r_fld, r_comp, r_compR, r_dl, r_dct0, x_exC, x_exM, x_bm, x_retV, b_nil, b_cons, l_nil, l_cons, a_one, a_cons, o_one, o_cons, p_none, p_some, c_none, c_some, bi_ok, bi_exc, bl_ok, bl_exc, lb_ok, lb_exc, th_ok, th_exc, lt_ok, lt_exc, se_nx, se_rt, se_exc, en_nx, en_rt, en_exc, op_shr, op_fr, of_t, of_f, cur_shr, cur_fr, cur_ho, cur_hb, cur_hf, curs_nil, curs_cons, Pu.frz1, Pu.Fl.free, sh_nil, sh_shr, putAt_ho, putAt_fr, bmf_clr, bmf_clrD, bmf_rev, nsts_ho, nsts_fr, nsts_shr, nsts_hb, nsts_hf, ta_nil, ta_shr, ta_ho, ta_hb, ta_hf, Pu.asn, Pu.asn.asns, Pu.wipeS, Pu.frzS, Pu.frz1S, Pu.bfn, Pu.bmT, Pu.dlf, Pu.kOf, bo_add, bo_sub, Pu.cmpo, Pu.truthy, Pu.isTy, Pu.isN, eq_ii, eq_ss, eq_bb, eq_nn, eq_is, eq_si, eq_ni, eq_in, eq_ns, eq_sn, eq_nb, eq_bn, eq_bs, eq_sb, Pu.item, i_0, i_1, i_2, i_3, i_4, Pu.iter, Pu.okIt, Pu.dOf, Pu.dOfs, List.set_cons_zero, List.set_cons_succ, List.getElem?_cons_zero, List.getElem?_cons_succ, List.length_cons, List.length_nil, Option.bind_some, Option.map_some, Option.isSome_some, Option.bind_none, Option.map_none, Option.getD_some, Bool.not_true, Bool.not_false, Va.str.injEq, Va.int.injEq, Va.bl.injEq, Bool.false_eq_true, Bool.true_and, Bool.and_true, Bool.false_and, Bool.and_false, decide_true, decide_false, if_true, if_false, ite_true, ite_false, reduceCtorEq, and_self, true_and, and_true, ne1, Ky.d, At.d]
  | wth a b =>
    simp only [f_matter, b_f_matter, Fact.d, Fact.mat, Fact.about, Pu.begin_, List.map_cons, List.map_nil, List.drop_nil, List.append_nil, List.nil_append, List.replicate, List.cons_append, e_v, e_k, e_g, e_tup, e_lst, e_dct0, e_bin, e_neg, e_nt, e_an, e_or, e_cmp, e_cmp2, e_call, e_mk, e_meth, e_bi, e_fld, e_ix, e_sl, e_ife, e_isx, e_dl, x_asg, x_par, x_fld, x_sub, x_retN, x_pass, x_ite, x_rse, x_try, x_tryn, x_frz, r_k, r_tup, r_lst, r_bin, r_neg, r_nt, r_an, r_or, r_cmp, r_cmp2, r_call, r_mk, r_meth, r_bi, r_ix, r_sl, r_ife, r_g, r_fld, r_comp, r_compR, r_dl, r_dct0, x_exC, x_exM, x_bm, x_retV, b_nil, b_cons, l_nil, l_cons, a_one, a_cons, o_one, o_cons, p_none, p_some, c_none, c_some, bi_ok, bi_exc, bl_ok, bl_exc, lb_ok, lb_exc, th_ok, th_exc, lt_ok, lt_exc, se_nx, se_rt, se_exc, en_nx, en_rt, en_exc, op_shr, op_fr, of_t, of_f, cur_shr, cur_fr, cur_ho, cur_hb, cur_hf, curs_nil, curs_cons, Pu.frz1, Pu.Fl.free, sh_nil, sh_shr, putAt_ho, putAt_fr, bmf_clr, bmf_clrD, bmf_rev, nsts_ho, nsts_fr, nsts_shr, nsts_hb, nsts_hf, ta_nil, ta_shr, ta_ho, ta_hb, ta_hf, Pu.asn, Pu.asn.asns, Pu.wipeS, Pu.frzS, Pu.frz1S, Pu.bfn, Pu.bmT, Pu.dlf, Pu.kOf, bo_add, bo_sub, Pu.cmpo, Pu.truthy, Pu.isTy, Pu.isN, eq_ii, eq_ss, eq_bb, eq_nn, eq_is, eq_si, eq_ni, eq_in, eq_ns, eq_sn, eq_nb, eq_bn, eq_bs, eq_sb, Pu.item, i_0, i_1, i_2, i_3, i_4, Pu.iter, Pu.okIt, Pu.dOf, Pu.dOfs, List.set_cons_zero, List.set_cons_succ, List.getElem?_cons_zero, List.getElem?_cons_succ, List.length_cons, List.length_nil, Option.bind_some, Option.map_some, Option.isSome_some, Option.bind_none, Option.map_none, Option.getD_some, Bool.not_true, Bool.not_false, Va.str.injEq, Va.int.injEq, Va.bl.injEq, Bool.false_eq_true, Bool.true_and, Bool.and_true, Bool.false_and, Bool.and_false, decide_true, decide_false, if_true, if_false, ite_true, ite_false, reduceCtorEq, and_self, true_and, and_true, gls]
    all_goals simp [e_v, e_k, e_g, e_tup, e_lst, e_dct0, e_bin, e_neg, e_nt, e_an, e_or, e_cmp, e_cmp2, e_call, e_mk, e_meth, e_bi, e_fld, e_ix, e_sl, e_ife, e_isx, e_dl, x_asg, x_par, x_fld, x_sub, x_retN, x_pass, x_ite, x_rse, x_try, x_tryn, x_frz, r_k, r_tup, r_lst, r_bin, r_neg, r_nt, r_an, r_or, r_cmp, r_cmp2, r_call, r_mk, r_meth, r_bi, r_ix, r_sl, r_ife, r_g, r_fld, r_comp, r_compR, r_dl, r_dct0, x_exC, x_exM, x_bm, x_retV, b_nil, b_cons, l_nil, l_cons, a_one, a_cons, o_one, o_cons, p_none, p_some, c_none, c_some, bi_ok, bi_exc, bl_ok, bl_exc, lb_ok, lb_exc, th_ok, th_exc, lt_ok, lt_exc, se_nx, se_rt, se_exc, en_nx, en_rt, en_exc, op_shr, op_fr, of_t, of_f, cur_shr, cur_fr, cur_ho, cur_hb, cur_hf, curs_nil, curs_cons, Pu.frz1, Pu.Fl.free, sh_nil, sh_shr, putAt_ho, putAt_fr, bmf_clr, bmf_clrD, bmf_rev, nsts_ho, nsts_fr, nsts_shr, nsts_hb, nsts_hf, ta_nil, ta_shr, ta_ho, ta_hb, ta_hf, Pu.asn, Pu.asn.asns, Pu.wipeS, Pu.frzS, Pu.frz1S, Pu.bfn, Pu.bmT, Pu.dlf, Pu.kOf, bo_add, bo_sub, Pu.cmpo, Pu.truthy, Pu.isTy, Pu.isN, eq_ii, eq_ss, eq_bb, eq_nn, eq_is, eq_si, eq_ni, eq_in, eq_ns, eq_sn, eq_nb, eq_bn, eq_bs, eq_sb, Pu.item, i_0, i_1, i_2, i_3, i_4, Pu.iter, Pu.okIt, Pu.dOf, Pu.dOfs, List.set_cons_zero, List.set_cons_succ, List.getElem?_cons_zero, List.getElem?_cons_succ, List.length_cons, List.length_nil, Option.bind_some, Option.map_some, Option.isSome_some, Option.bind_none, Option.map_none, Option.getD_some, Bool.not_true, Bool.not_false, Va.str.injEq, Va.int.injEq, Va.bl.injEq, Bool.false_eq_true, Bool.true_and, Bool.and_true, Bool.false_and, Bool.and_false, decide_true, decide_false, if_true, if_false, ite_true, ite_false, reduceCtorEq, and_self, true_and, and_true, ne2, ne5, smin, smax, Ky.d, At.d]
  | apart a b =>
    simp only [f_matter, b_f_matter, Fact.d, Fact.mat, Fact.about, Pu.begin_, List.map_cons, List.map_nil, List.drop_nil, List.append_nil, List.nil_append, List.replicate, List.cons_append, e_v, e_k, e_g, e_tup, e_lst, e_dct0, e_bin, e_neg, e_nt, e_an, e_or, e_cmp, e_cmp2, e_call, e_mk, e_meth, e_bi, e_fld, e_ix, e_sl, e_ife, e_isx, e_dl, x_asg, x_par, x_fld, x_sub, x_retN, x_pass, x_ite, x_rse, x_try, x_tryn, x_frz, r_k, r_tup, r_lst, r_bin, r_neg, r_nt, r_an, r_or, r_cmp, r_cmp2, r_call, r_mk, r_meth, r_bi, r_ix, r_sl, r_ife, r_g, r_fld, r_comp, r_compR, r_dl, r_dct0, x_exC, x_exM, x_bm, x_retV, b_nil, b_cons, l_nil, l_cons, a_one, a_cons, o_one, o_cons, p_none, p_some, c_none, c_some, bi_ok, bi_exc, bl_ok, bl_exc, lb_ok, lb_exc, th_ok, th_exc, lt_ok, lt_exc, se_nx, se_rt, se_exc, en_nx, en_rt, en_exc, op_shr, op_fr, of_t, of_f, cur_shr, cur_fr, cur_ho, cur_hb, cur_hf, curs_nil, curs_cons, Pu.frz1, Pu.Fl.free, sh_nil, sh_shr, putAt_ho, putAt_fr, bmf_clr, bmf_clrD, bmf_rev, nsts_ho, nsts_fr, nsts_shr, nsts_hb, nsts_hf, ta_nil, ta_shr, ta_ho, ta_hb, ta_hf, Pu.asn, Pu.asn.asns, Pu.wipeS, Pu.frzS, Pu.frz1S, Pu.bfn, Pu.bmT, Pu.dlf, Pu.kOf, bo_add, bo_sub, Pu.cmpo, Pu.truthy, Pu.isTy, Pu.isN, eq_ii, eq_ss, eq_bb, eq_nn, eq_is, eq_si, eq_ni, eq_in, eq_ns, eq_sn, eq_nb, eq_bn, eq_bs, eq_sb, Pu.item, i_0, i_1, i_2, i_3, i_4, Pu.iter, Pu.okIt, Pu.dOf, Pu.dOfs, List.set_cons_zero, List.set_cons_succ, List.getElem?_cons_zero, List.getElem?_cons_succ, List.length_cons, List.length_nil, Option.bind_some, Option.map_some, Option.isSome_some, Option.bind_none, Option.map_none, Option.getD_some, Bool.not_true, Bool.not_false, Va.str.injEq, Va.int.injEq, Va.bl.injEq, Bool.false_eq_true, Bool.true_and, Bool.and_true, Bool.false_and, Bool.and_false, decide_true, decide_false, if_true, if_false, ite_true, ite_false, reduceCtorEq, and_self, true_and, and_true, gls]
    all_goals simp [e_v, e_k, e_g, e_tup, e_lst, e_dct0, e_bin, e_neg, e_nt, e_an, e_or, e_cmp, e_cmp2, e_call, e_mk, e_meth, e_bi, e_fld, e_ix, e_sl, e_ife, e_isx, e_dl, x_asg, x_par, x_fld, x_sub, x_retN, x_pass, x_ite, x_rse, x_try, x_tryn, x_frz, r_k, r_tup, r_lst, r_bin, r_neg, r_nt, r_an, r_or, r_cmp, r_cmp2, r_call, r_mk, r_meth, r_bi, r_ix, r_sl, r_ife, r_g, r_fld, r_comp, r_compR, r_dl, r_dct0, x_exC, x_exM, x_bm, x_retV, b_nil, b_cons, l_nil, l_cons, a_one, a_cons, o_one, o_cons, p_none, p_some, c_none, c_some, bi_ok, bi_exc, bl_ok, bl_exc, lb_ok, lb_exc, th_ok, th_exc, lt_ok, lt_exc, se_nx, se_rt, se_exc, en_nx, en_rt, en_exc, op_shr, op_fr, of_t, of_f, cur_shr, cur_fr, cur_ho, cur_hb, cur_hf, curs_nil, curs_cons, Pu.frz1, Pu.Fl.free, sh_nil, sh_shr, putAt_ho, putAt_fr, bmf_clr, bmf_clrD, bmf_rev, nsts_ho, nsts_fr, nsts_shr, nsts_hb, nsts_hf, ta_nil, ta_shr, ta_ho, ta_hb, ta_hf, Pu.asn, Pu.asn.asns, Pu.wipeS, Pu.frzS, Pu.frz1S, Pu.bfn, Pu.bmT, Pu.dlf, Pu.kOf, bo_add, bo_sub, Pu.cmpo, Pu.truthy, Pu.isTy, Pu.isN, eq_ii, eq_ss, eq_bb, eq_nn, eq_is, eq_si, eq_ni, eq_in, eq_ns, eq_sn, eq_nb, eq_bn, eq_bs, eq_sb, Pu.item, i_0, i_1, i_2, i_3, i_4, Pu.iter, Pu.okIt, Pu.dOf, Pu.dOfs, List.set_cons_zero, List.set_cons_succ, List.getElem?_cons_zero, List.getElem?_cons_succ, List.length_cons, List.length_nil, Option.bind_some, Option.map_some, Option.isSome_some, Option.bind_none, Option.map_none, Option.getD_some, Bool.not_true, Bool.not_false, Va.str.injEq, Va.int.injEq, Va.bl.injEq, Bool.false_eq_true, Bool.true_and, Bool.and_true, Bool.false_and, Bool.and_false, decide_true, decide_false, if_true, if_false, ite_true, ite_false, reduceCtorEq, and_self, true_and, and_true, ne3, ne6, smin, smax, Ky.d, At.d]
end K82
set_option Elab.async false
set_option linter.all false
set_option maxRecDepth 100000
set_option maxHeartbeats 4000000
namespace K82
open Pu
open Dl (Va Ex Sm Tg Fn sortV leV srtOk)
open PySem (Str sizeLine PyData)
/-! ### texts can be sorted -/
theorem strOk_of {s : Str} (g : Good s) : PyData.strOk s = true := by
  unfold PyData.strOk
  rw [Array.all_eq_true']
  intro c hc
  have := g.az c (Array.mem_toList_iff.mpr hc)
  have all : ∀ c ∈ az, c < 0x110000 := by decide +kernel
  exact decide_eq_true (all c this)
theorem dat_str {s : Str} {n : Nat} (g : Good s) : Dl.dat [] n (.str s) = some (.str s) := by
  unfold Dl.dat
  rw [if_pos (strOk_of g)]
theorem sort2 {a b : Va} : sortV [a, b] = if leV a b = true then [a, b] else [b, a] := by
  unfold sortV
  simp [List.mergeSort, List.MergeSort.Internal.splitInTwo, List.merge]
theorem leV_str {a b : Str} : leV (.str a) (.str b) = !decide (b.cps.toList < a.cps.toList) := by
  unfold leV Dl.ltv
  simp
theorem sort_str2 {a b : Str} : sortV [.str a, .str b] = [.str (smin a b), .str (smax a b)] := by
  rw [sort2, leV_str]
  unfold smin smax
  by_cases c : b.cps.toList < a.cps.toList
  · have c2 : ¬ a.cps.toList < b.cps.toList := fun z => absurd (List.lt_trans c z) (List.lt_irrefl _)
    simp [c, c2]
  · by_cases c2 : a.cps.toList < b.cps.toList
    · simp [c, c2]
    · have e : a.cps.toList = b.cps.toList := List.le_antisymm (List.not_lt.mp c) (List.not_lt.mp c2)
      have e2 : a = b := by
        cases a
        cases b
        simp only [Array.toList_inj] at e
        rw [e]
      simp [c, c2, e2]
theorem srt_str2 {a b : Str} (ga : Good a) (gb : Good b) : srt [.str a, .str b] = some [.str (smin a b), .str (smax a b)] := by
  have : srtOk [] [.str a, .str b] = true := by
    unfold srtOk
    simp [dat_str ga, dat_str gb, Dl.alikeV, Dl.notTup]
  unfold srt
  simp only [List.map_cons, List.map_nil, vaOf, Dl.allO]
  rw [if_pos this, sort_str2]
  rfl
theorem Fact.ok.good {f : Fact} (g : f.ok) : match f with
    | .is n _ _ _ => Good n
    | .gone n => Good n
    | .wth a b => Good a ∧ Good b
    | .apart a b => Good a ∧ Good b := by
  cases f with
  | is => exact g.1
  | gone => exact g
  | wth => exact ⟨g.1, g.2.1⟩
  | apart => exact ⟨g.1, g.2.1⟩
theorem law_matter_ok {k : Nat} {f : Fact} {O : Os} (g : f.ok) : Pu.run Q (k + 1) i__law_matter [.sh f.d] O = .ok f.mat .shr O := by
  rw [run_at (d := f__law_matter) rfl rfl]
  have l2 : ([D.str "pair"] : List D).length + 2 ≤ sizeLine := by decide
  cases f with
  | is n a p r =>
    simp only [f__law_matter, b_f__law_matter, Fact.d, Fact.mat, Fact.about, Pu.begin_, List.map_cons, List.map_nil, List.drop_nil, List.append_nil, List.nil_append, List.replicate, List.cons_append, e_v, e_k, e_g, e_tup, e_lst, e_dct0, e_bin, e_neg, e_nt, e_an, e_or, e_cmp, e_cmp2, e_call, e_mk, e_meth, e_bi, e_fld, e_ix, e_sl, e_ife, e_isx, e_dl, x_asg, x_par, x_fld, x_sub, x_retN, x_pass, x_ite, x_rse, x_try, x_tryn, x_frz, r_k, r_tup, r_lst, r_bin, r_neg, r_nt, r_an, r_or, r_cmp, r_cmp2, r_call, r_mk, r_meth, r_bi, r_ix, r_sl, r_ife, r_g, r_fld, r_comp, r_compR, r_dl, r_dct0, x_exC, x_exM, x_bm, x_retV, b_nil, b_cons, l_nil, l_cons, a_one, a_cons, o_one, o_cons, p_none, p_some, c_none, c_some, bi_ok, bi_exc, bl_ok, bl_exc, lb_ok, lb_exc, th_ok, th_exc, lt_ok, lt_exc, se_nx, se_rt, se_exc, en_nx, en_rt, en_exc, op_shr, op_fr, of_t, of_f, cur_shr, cur_fr, cur_ho, cur_hb, cur_hf, curs_nil, curs_cons, Pu.frz1, Pu.Fl.free, sh_nil, sh_shr, putAt_ho, putAt_fr, bmf_clr, bmf_clrD, bmf_rev, nsts_ho, nsts_fr, nsts_shr, nsts_hb, nsts_hf, ta_nil, ta_shr, ta_ho, ta_hb, ta_hf, Pu.asn, Pu.asn.asns, Pu.wipeS, Pu.frzS, Pu.frz1S, Pu.bfn, Pu.bmT, Pu.dlf, Pu.kOf, bo_add, bo_sub, Pu.cmpo, Pu.truthy, Pu.isTy, Pu.isN, eq_ii, eq_ss, eq_bb, eq_nn, eq_is, eq_si, eq_ni, eq_in, eq_ns, eq_sn, eq_nb, eq_bn, eq_bs, eq_sb, Pu.item, i_0, i_1, i_2, i_3, i_4, Pu.iter, Pu.okIt, Pu.dOf, Pu.dOfs, List.set_cons_zero, List.set_cons_succ, List.getElem?_cons_zero, List.getElem?_cons_succ, List.length_cons, List.length_nil, Option.bind_some, Option.map_some, Option.isSome_some, Option.bind_none, Option.map_none, Option.getD_some, Bool.not_true, Bool.not_false, Va.str.injEq, Va.int.injEq, Va.bl.injEq, Bool.false_eq_true, Bool.true_and, Bool.and_true, Bool.false_and, Bool.and_false, decide_true, decide_false, if_true, if_false, ite_true, ite_false, reduceCtorEq, and_self, true_and, and_true, gls]
    all_goals simp [e_v, e_k, e_g, e_tup, e_lst, e_dct0, e_bin, e_neg, e_nt, e_an, e_or, e_cmp, e_cmp2, e_call, e_mk, e_meth, e_bi, e_fld, e_ix, e_sl, e_ife, e_isx, e_dl, x_asg, x_par, x_fld, x_sub, x_retN, x_pass, x_ite, x_rse, x_try, x_tryn, x_frz, r_k, r_tup, r_lst, r_bin, r_neg, r_nt, r_an, r_or, r_cmp, r_cmp2, r_call, r_mk, r_meth, r_bi, r_ix, r_sl, r_ife, r_g, r_fld, r_comp, r_compR, r_dl, r_dct0, x_exC, x_exM, x_bm, x_retV, b_nil, b_cons, l_nil, l_cons, a_one, a_cons, o_one, o_cons, p_none, p_some, c_none, c_some, bi_ok, bi_exc, bl_ok, bl_exc, lb_ok, lb_exc, th_ok, th_exc, lt_ok, lt_exc, se_nx, se_rt, se_exc, en_nx, en_rt, en_exc, op_shr, op_fr, of_t, of_f, cur_shr, cur_fr, cur_ho, cur_hb, cur_hf, curs_nil, curs_cons, Pu.frz1, Pu.Fl.free, sh_nil, sh_shr, putAt_ho, putAt_fr, bmf_clr, bmf_clrD, bmf_rev, nsts_ho, nsts_fr, nsts_shr, nsts_hb, nsts_hf, ta_nil, ta_shr, ta_ho, ta_hb, ta_hf, Pu.asn, Pu.asn.asns, Pu.wipeS, Pu.frzS, Pu.frz1S, Pu.bfn, Pu.bmT, Pu.dlf, Pu.kOf, bo_add, bo_sub, Pu.cmpo, Pu.truthy, Pu.isTy, Pu.isN, eq_ii, eq_ss, eq_bb, eq_nn, eq_is, eq_si, eq_ni, eq_in, eq_ns, eq_sn, eq_nb, eq_bn, eq_bs, eq_sb, Pu.item, i_0, i_1, i_2, i_3, i_4, Pu.iter, Pu.okIt, Pu.dOf, Pu.dOfs, List.set_cons_zero, List.set_cons_succ, List.getElem?_cons_zero, List.getElem?_cons_succ, List.length_cons, List.length_nil, Option.bind_some, Option.map_some, Option.isSome_some, Option.bind_none, Option.map_none, Option.getD_some, Bool.not_true, Bool.not_false, Va.str.injEq, Va.int.injEq, Va.bl.injEq, Bool.false_eq_true, Bool.true_and, Bool.and_true, Bool.false_and, Bool.and_false, decide_true, decide_false, if_true, if_false, ite_true, ite_false, reduceCtorEq, and_self, true_and, and_true, Ky.d, At.d]
  | gone n =>
    simp only [f__law_matter, b_f__law_matter, Fact.d, Fact.mat, Fact.about, Pu.begin_, List.map_cons, List.map_nil, List.drop_nil, List.append_nil, List.nil_append, List.replicate, List.cons_append, e_v, e_k, e_g, e_tup, e_lst, e_dct0, e_bin, e_neg, e_nt, e_an, e_or, e_cmp, e_cmp2, e_call, e_mk, e_meth, e_bi, e_fld, e_ix, e_sl, e_ife, e_isx, e_dl, x_asg, x_par, x_fld, x_sub, x_retN, x_pass, x_ite, x_rse, x_try, x_tryn, x_frz, r_k, r_tup, r_lst, r_bin, r_neg, r_nt, r_an, r_or, r_cmp, r_cmp2, r_call, r_mk, r_meth, r_bi, r_ix, r_sl, r_ife, r_g, r_fld, r_comp, r_compR, r_dl, r_dct0, x_exC, x_exM, x_bm, x_retV, b_nil, b_cons, l_nil, l_cons, a_one, a_cons, o_one, o_cons, p_none, p_some, c_none, c_some, bi_ok, bi_exc, bl_ok, bl_exc, lb_ok, lb_exc, th_ok, th_exc, lt_ok, lt_exc, se_nx, se_rt, se_exc, en_nx, en_rt, en_exc, op_shr, op_fr, of_t, of_f, cur_shr, cur_fr, cur_ho, cur_hb, cur_hf, curs_nil, curs_cons, Pu.frz1, Pu.Fl.free, sh_nil, sh_shr, putAt_ho, putAt_fr, bmf_clr, bmf_clrD, bmf_rev, nsts_ho, nsts_fr, nsts_shr, nsts_hb, nsts_hf, ta_nil, ta_shr, ta_ho, ta_hb, ta_hf, Pu.asn, Pu.asn.asns, Pu.wipeS, Pu.frzS, Pu.frz1S, Pu.bfn, Pu.bmT, Pu.dlf, Pu.kOf, bo_add, bo_sub, Pu.cmpo, Pu.truthy, Pu.isTy, Pu.isN, eq_ii, eq_ss, eq_bb, eq_nn, eq_is, eq_si, eq_ni, eq_in, eq_ns, eq_sn, eq_nb, eq_bn, eq_bs, eq_sb, Pu.item, i_0, i_1, i_2, i_3, i_4, Pu.iter, Pu.okIt, Pu.dOf, Pu.dOfs, List.set_cons_zero, List.set_cons_succ, List.getElem?_cons_zero, List.getElem?_cons_succ, List.length_cons, List.length_nil, Option.bind_some, Option.map_some, Option.isSome_some, Option.bind_none, Option.map_none, Option.getD_some, Bool.not_true, Bool.not_false, Va.str.injEq, Va.int.injEq, Va.bl.injEq, Bool.false_eq_true, Bool.true_and, Bool.and_true, Bool.false_and, Bool.and_false, decide_true, decide_false, if_true, if_false, ite_true, ite_false, reduceCtorEq, and_self, true_and, and_true, gls]
    all_goals simp [e_v, e_k, e_g, e_tup, e_lst, e_dct0, e_bin, e_neg, e_nt, e_an, e_or, e_cmp, e_cmp2, e_call, e_mk, e_meth, e_bi, e_fld, e_ix, e_sl, e_ife, e_isx, e_dl, x_asg, x_par, x_fld, x_sub, x_retN, x_pass, x_ite, x_rse, x_try, x_tryn, x_frz, r_k, r_tup, r_lst, r_bin, r_neg, r_nt, r_an, r_or, r_cmp, r_cmp2, r_call, r_mk, r_meth, r_bi, r_ix, r_sl, r_ife, r_g, r_fld, r_comp, r_compR, r_dl, r_dct0, x_exC, x_exM, x_bm, x_retV, b_nil, b_cons, l_nil, l_cons, a_one, a_cons, o_one, o_cons, p_none, p_some, c_none, c_some, bi_ok, bi_exc, bl_ok, bl_exc, lb_ok, lb_exc, th_ok, th_exc, lt_ok, lt_exc, se_nx, se_rt, se_exc, en_nx, en_rt, en_exc, op_shr, op_fr, of_t, of_f, cur_shr, cur_fr, cur_ho, cur_hb, cur_hf, curs_nil, curs_cons, Pu.frz1, Pu.Fl.free, sh_nil, sh_shr, putAt_ho, putAt_fr, bmf_clr, bmf_clrD, bmf_rev, nsts_ho, nsts_fr, nsts_shr, nsts_hb, nsts_hf, ta_nil, ta_shr, ta_ho, ta_hb, ta_hf, Pu.asn, Pu.asn.asns, Pu.wipeS, Pu.frzS, Pu.frz1S, Pu.bfn, Pu.bmT, Pu.dlf, Pu.kOf, bo_add, bo_sub, Pu.cmpo, Pu.truthy, Pu.isTy, Pu.isN, eq_ii, eq_ss, eq_bb, eq_nn, eq_is, eq_si, eq_ni, eq_in, eq_ns, eq_sn, eq_nb, eq_bn, eq_bs, eq_sb, Pu.item, i_0, i_1, i_2, i_3, i_4, Pu.iter, Pu.okIt, Pu.dOf, Pu.dOfs, List.set_cons_zero, List.set_cons_succ, List.getElem?_cons_zero, List.getElem?_cons_succ, List.length_cons, List.length_nil, Option.bind_some, Option.map_some, Option.isSome_some, Option.bind_none, Option.map_none, Option.getD_some, Bool.not_true, Bool.not_false, Va.str.injEq, Va.int.injEq, Va.bl.injEq, Bool.false_eq_true, Bool.true_and, Bool.and_true, Bool.false_and, Bool.and_false, decide_true, decide_false, if_true, if_false, ite_true, ite_false, reduceCtorEq, and_self, true_and, and_true, ne1, Ky.d, At.d]
  | wth a b =>
    have s := srt_str2 g.1 g.2.1
    have t := bo_tup (a := [.str "pair"]) (b := [.str (smin a b), .str (smax a b)]) ⟨by simp, by simp, l2⟩
    simp only [f__law_matter, b_f__law_matter, Fact.d, Fact.mat, Fact.about, Pu.begin_, List.map_cons, List.map_nil, List.drop_nil, List.append_nil, List.nil_append, List.replicate, List.cons_append, e_v, e_k, e_g, e_tup, e_lst, e_dct0, e_bin, e_neg, e_nt, e_an, e_or, e_cmp, e_cmp2, e_call, e_mk, e_meth, e_bi, e_fld, e_ix, e_sl, e_ife, e_isx, e_dl, x_asg, x_par, x_fld, x_sub, x_retN, x_pass, x_ite, x_rse, x_try, x_tryn, x_frz, r_k, r_tup, r_lst, r_bin, r_neg, r_nt, r_an, r_or, r_cmp, r_cmp2, r_call, r_mk, r_meth, r_bi, r_ix, r_sl, r_ife, r_g, r_fld, r_comp, r_compR, r_dl, r_dct0, x_exC, x_exM, x_bm, x_retV, b_nil, b_cons, l_nil, l_cons, a_one, a_cons, o_one, o_cons, p_none, p_some, c_none, c_some, bi_ok, bi_exc, bl_ok, bl_exc, lb_ok, lb_exc, th_ok, th_exc, lt_ok, lt_exc, se_nx, se_rt, se_exc, en_nx, en_rt, en_exc, op_shr, op_fr, of_t, of_f, cur_shr, cur_fr, cur_ho, cur_hb, cur_hf, curs_nil, curs_cons, Pu.frz1, Pu.Fl.free, sh_nil, sh_shr, putAt_ho, putAt_fr, bmf_clr, bmf_clrD, bmf_rev, nsts_ho, nsts_fr, nsts_shr, nsts_hb, nsts_hf, ta_nil, ta_shr, ta_ho, ta_hb, ta_hf, Pu.asn, Pu.asn.asns, Pu.wipeS, Pu.frzS, Pu.frz1S, Pu.bfn, Pu.bmT, Pu.dlf, Pu.kOf, bo_add, bo_sub, Pu.cmpo, Pu.truthy, Pu.isTy, Pu.isN, eq_ii, eq_ss, eq_bb, eq_nn, eq_is, eq_si, eq_ni, eq_in, eq_ns, eq_sn, eq_nb, eq_bn, eq_bs, eq_sb, Pu.item, i_0, i_1, i_2, i_3, i_4, Pu.iter, Pu.okIt, Pu.dOf, Pu.dOfs, List.set_cons_zero, List.set_cons_succ, List.getElem?_cons_zero, List.getElem?_cons_succ, List.length_cons, List.length_nil, Option.bind_some, Option.map_some, Option.isSome_some, Option.bind_none, Option.map_none, Option.getD_some, Bool.not_true, Bool.not_false, Va.str.injEq, Va.int.injEq, Va.bl.injEq, Bool.false_eq_true, Bool.true_and, Bool.and_true, Bool.false_and, Bool.and_false, decide_true, decide_false, if_true, if_false, ite_true, ite_false, reduceCtorEq, and_self, true_and, and_true, gls, s, t]
    all_goals simp [e_v, e_k, e_g, e_tup, e_lst, e_dct0, e_bin, e_neg, e_nt, e_an, e_or, e_cmp, e_cmp2, e_call, e_mk, e_meth, e_bi, e_fld, e_ix, e_sl, e_ife, e_isx, e_dl, x_asg, x_par, x_fld, x_sub, x_retN, x_pass, x_ite, x_rse, x_try, x_tryn, x_frz, r_k, r_tup, r_lst, r_bin, r_neg, r_nt, r_an, r_or, r_cmp, r_cmp2, r_call, r_mk, r_meth, r_bi, r_ix, r_sl, r_ife, r_g, r_fld, r_comp, r_compR, r_dl, r_dct0, x_exC, x_exM, x_bm, x_retV, b_nil, b_cons, l_nil, l_cons, a_one, a_cons, o_one, o_cons, p_none, p_some, c_none, c_some, bi_ok, bi_exc, bl_ok, bl_exc, lb_ok, lb_exc, th_ok, th_exc, lt_ok, lt_exc, se_nx, se_rt, se_exc, en_nx, en_rt, en_exc, op_shr, op_fr, of_t, of_f, cur_shr, cur_fr, cur_ho, cur_hb, cur_hf, curs_nil, curs_cons, Pu.frz1, Pu.Fl.free, sh_nil, sh_shr, putAt_ho, putAt_fr, bmf_clr, bmf_clrD, bmf_rev, nsts_ho, nsts_fr, nsts_shr, nsts_hb, nsts_hf, ta_nil, ta_shr, ta_ho, ta_hb, ta_hf, Pu.asn, Pu.asn.asns, Pu.wipeS, Pu.frzS, Pu.frz1S, Pu.bfn, Pu.bmT, Pu.dlf, Pu.kOf, bo_add, bo_sub, Pu.cmpo, Pu.truthy, Pu.isTy, Pu.isN, eq_ii, eq_ss, eq_bb, eq_nn, eq_is, eq_si, eq_ni, eq_in, eq_ns, eq_sn, eq_nb, eq_bn, eq_bs, eq_sb, Pu.item, i_0, i_1, i_2, i_3, i_4, Pu.iter, Pu.okIt, Pu.dOf, Pu.dOfs, List.set_cons_zero, List.set_cons_succ, List.getElem?_cons_zero, List.getElem?_cons_succ, List.length_cons, List.length_nil, Option.bind_some, Option.map_some, Option.isSome_some, Option.bind_none, Option.map_none, Option.getD_some, Bool.not_true, Bool.not_false, Va.str.injEq, Va.int.injEq, Va.bl.injEq, Bool.false_eq_true, Bool.true_and, Bool.and_true, Bool.false_and, Bool.and_false, decide_true, decide_false, if_true, if_false, ite_true, ite_false, reduceCtorEq, and_self, true_and, and_true, ne2, ne5, Ky.d, At.d, s, t]
  | apart a b =>
    have s := srt_str2 g.1 g.2.1
    have t := bo_tup (a := [.str "pair"]) (b := [.str (smin a b), .str (smax a b)]) ⟨by simp, by simp, l2⟩
    simp only [f__law_matter, b_f__law_matter, Fact.d, Fact.mat, Fact.about, Pu.begin_, List.map_cons, List.map_nil, List.drop_nil, List.append_nil, List.nil_append, List.replicate, List.cons_append, e_v, e_k, e_g, e_tup, e_lst, e_dct0, e_bin, e_neg, e_nt, e_an, e_or, e_cmp, e_cmp2, e_call, e_mk, e_meth, e_bi, e_fld, e_ix, e_sl, e_ife, e_isx, e_dl, x_asg, x_par, x_fld, x_sub, x_retN, x_pass, x_ite, x_rse, x_try, x_tryn, x_frz, r_k, r_tup, r_lst, r_bin, r_neg, r_nt, r_an, r_or, r_cmp, r_cmp2, r_call, r_mk, r_meth, r_bi, r_ix, r_sl, r_ife, r_g, r_fld, r_comp, r_compR, r_dl, r_dct0, x_exC, x_exM, x_bm, x_retV, b_nil, b_cons, l_nil, l_cons, a_one, a_cons, o_one, o_cons, p_none, p_some, c_none, c_some, bi_ok, bi_exc, bl_ok, bl_exc, lb_ok, lb_exc, th_ok, th_exc, lt_ok, lt_exc, se_nx, se_rt, se_exc, en_nx, en_rt, en_exc, op_shr, op_fr, of_t, of_f, cur_shr, cur_fr, cur_ho, cur_hb, cur_hf, curs_nil, curs_cons, Pu.frz1, Pu.Fl.free, sh_nil, sh_shr, putAt_ho, putAt_fr, bmf_clr, bmf_clrD, bmf_rev, nsts_ho, nsts_fr, nsts_shr, nsts_hb, nsts_hf, ta_nil, ta_shr, ta_ho, ta_hb, ta_hf, Pu.asn, Pu.asn.asns, Pu.wipeS, Pu.frzS, Pu.frz1S, Pu.bfn, Pu.bmT, Pu.dlf, Pu.kOf, bo_add, bo_sub, Pu.cmpo, Pu.truthy, Pu.isTy, Pu.isN, eq_ii, eq_ss, eq_bb, eq_nn, eq_is, eq_si, eq_ni, eq_in, eq_ns, eq_sn, eq_nb, eq_bn, eq_bs, eq_sb, Pu.item, i_0, i_1, i_2, i_3, i_4, Pu.iter, Pu.okIt, Pu.dOf, Pu.dOfs, List.set_cons_zero, List.set_cons_succ, List.getElem?_cons_zero, List.getElem?_cons_succ, List.length_cons, List.length_nil, Option.bind_some, Option.map_some, Option.isSome_some, Option.bind_none, Option.map_none, Option.getD_some, Bool.not_true, Bool.not_false, Va.str.injEq, Va.int.injEq, Va.bl.injEq, Bool.false_eq_true, Bool.true_and, Bool.and_true, Bool.false_and, Bool.and_false, decide_true, decide_false, if_true, if_false, ite_true, ite_false, reduceCtorEq, and_self, true_and, and_true, gls, s, t]
    all_goals simp [e_v, e_k, e_g, e_tup, e_lst, e_dct0, e_bin, e_neg, e_nt, e_an, e_or, e_cmp, e_cmp2, e_call, e_mk, e_meth, e_bi, e_fld, e_ix, e_sl, e_ife, e_isx, e_dl, x_asg, x_par, x_fld, x_sub, x_retN, x_pass, x_ite, x_rse, x_try, x_tryn, x_frz, r_k, r_tup, r_lst, r_bin, r_neg, r_nt, r_an, r_or, r_cmp, r_cmp2, r_call, r_mk, r_meth, r_bi, r_ix, r_sl, r_ife, r_g, r_fld, r_comp, r_compR, r_dl, r_dct0, x_exC, x_exM, x_bm, x_retV, b_nil, b_cons, l_nil, l_cons, a_one, a_cons, o_one, o_cons, p_none, p_some, c_none, c_some, bi_ok, bi_exc, bl_ok, bl_exc, lb_ok, lb_exc, th_ok, th_exc, lt_ok, lt_exc, se_nx, se_rt, se_exc, en_nx, en_rt, en_exc, op_shr, op_fr, of_t, of_f, cur_shr, cur_fr, cur_ho, cur_hb, cur_hf, curs_nil, curs_cons, Pu.frz1, Pu.Fl.free, sh_nil, sh_shr, putAt_ho, putAt_fr, bmf_clr, bmf_clrD, bmf_rev, nsts_ho, nsts_fr, nsts_shr, nsts_hb, nsts_hf, ta_nil, ta_shr, ta_ho, ta_hb, ta_hf, Pu.asn, Pu.asn.asns, Pu.wipeS, Pu.frzS, Pu.frz1S, Pu.bfn, Pu.bmT, Pu.dlf, Pu.kOf, bo_add, bo_sub, Pu.cmpo, Pu.truthy, Pu.isTy, Pu.isN, eq_ii, eq_ss, eq_bb, eq_nn, eq_is, eq_si, eq_ni, eq_in, eq_ns, eq_sn, eq_nb, eq_bn, eq_bs, eq_sb, Pu.item, i_0, i_1, i_2, i_3, i_4, Pu.iter, Pu.okIt, Pu.dOf, Pu.dOfs, List.set_cons_zero, List.set_cons_succ, List.getElem?_cons_zero, List.getElem?_cons_succ, List.length_cons, List.length_nil, Option.bind_some, Option.map_some, Option.isSome_some, Option.bind_none, Option.map_none, Option.getD_some, Bool.not_true, Bool.not_false, Va.str.injEq, Va.int.injEq, Va.bl.injEq, Bool.false_eq_true, Bool.true_and, Bool.and_true, Bool.false_and, Bool.and_false, decide_true, decide_false, if_true, if_false, ite_true, ite_false, reduceCtorEq, and_self, true_and, and_true, ne3, ne6, Ky.d, At.d, s, t]
/-! ### cells -/
def cell (ns : List Int) (i : Nat) : Int := ns.getD i 0
theorem law_cell_ok {k i : Nat} {ns : List Int} {O : Os} : Pu.run Q (k + 1) i__law_cell [.sh (.rl (ns.map .int)), .sh (.int i)] O = .ok (.int (cell ns i)) .shr O := by
  rw [run_at (d := f__law_cell) rfl rfl]
  by_cases c : i < ns.length
  · have c2 : (i : Int) < (ns.length : Int) := by omega
    have e : (ns.map D.int)[i]? = some (.int (cell ns i)) := by
      unfold cell
      simp [c]
    simp only [f__law_cell, b_f__law_cell, Pu.begin_, List.map_cons, List.map_nil, List.drop_nil, List.append_nil, List.nil_append, List.replicate, List.cons_append, e_v, e_k, e_g, e_tup, e_lst, e_dct0, e_bin, e_neg, e_nt, e_an, e_or, e_cmp, e_cmp2, e_call, e_mk, e_meth, e_bi, e_fld, e_ix, e_sl, e_ife, e_isx, e_dl, x_asg, x_par, x_fld, x_sub, x_retN, x_pass, x_ite, x_rse, x_try, x_tryn, x_frz, r_k, r_tup, r_lst, r_bin, r_neg, r_nt, r_an, r_or, r_cmp, r_cmp2, r_call, r_mk, r_meth, r_bi, r_ix, r_sl, r_ife, r_g, r_fld, r_comp, r_compR, r_dl, r_dct0, x_exC, x_exM, x_bm, x_retV, b_nil, b_cons, l_nil, l_cons, a_one, a_cons, o_one, o_cons, p_none, p_some, c_none, c_some, bi_ok, bi_exc, bl_ok, bl_exc, lb_ok, lb_exc, th_ok, th_exc, lt_ok, lt_exc, se_nx, se_rt, se_exc, en_nx, en_rt, en_exc, op_shr, op_fr, of_t, of_f, cur_shr, cur_fr, cur_ho, cur_hb, cur_hf, curs_nil, curs_cons, Pu.frz1, Pu.Fl.free, sh_nil, sh_shr, putAt_ho, putAt_fr, bmf_clr, bmf_clrD, bmf_rev, nsts_ho, nsts_fr, nsts_shr, nsts_hb, nsts_hf, ta_nil, ta_shr, ta_ho, ta_hb, ta_hf, Pu.asn, Pu.asn.asns, Pu.wipeS, Pu.frzS, Pu.frz1S, Pu.bfn, Pu.bmT, Pu.dlf, Pu.kOf, bo_add, bo_sub, Pu.cmpo, Pu.truthy, Pu.isTy, Pu.isN, eq_ii, eq_ss, eq_bb, eq_nn, eq_is, eq_si, eq_ni, eq_in, eq_ns, eq_sn, eq_nb, eq_bn, eq_bs, eq_sb, Pu.item, i_0, i_1, i_2, i_3, i_4, Pu.iter, Pu.okIt, Pu.dOf, Pu.dOfs, List.set_cons_zero, List.set_cons_succ, List.getElem?_cons_zero, List.getElem?_cons_succ, List.length_cons, List.length_nil, Option.bind_some, Option.map_some, Option.isSome_some, Option.bind_none, Option.map_none, Option.getD_some, Bool.not_true, Bool.not_false, Va.str.injEq, Va.int.injEq, Va.bl.injEq, Bool.false_eq_true, Bool.true_and, Bool.and_true, Bool.false_and, Bool.and_false, decide_true, decide_false, if_true, if_false, ite_true, ite_false, reduceCtorEq, and_self, true_and, and_true, gls, List.length_map, c2, i_nat, e]
  · have c2 : ¬ (i : Int) < (ns.length : Int) := by omega
    have e : cell ns i = 0 := by
      unfold cell
      rw [List.getD_eq_getElem?_getD, List.getElem?_eq_none (by omega)]
      rfl
    simp only [f__law_cell, b_f__law_cell, Pu.begin_, List.map_cons, List.map_nil, List.drop_nil, List.append_nil, List.nil_append, List.replicate, List.cons_append, e_v, e_k, e_g, e_tup, e_lst, e_dct0, e_bin, e_neg, e_nt, e_an, e_or, e_cmp, e_cmp2, e_call, e_mk, e_meth, e_bi, e_fld, e_ix, e_sl, e_ife, e_isx, e_dl, x_asg, x_par, x_fld, x_sub, x_retN, x_pass, x_ite, x_rse, x_try, x_tryn, x_frz, r_k, r_tup, r_lst, r_bin, r_neg, r_nt, r_an, r_or, r_cmp, r_cmp2, r_call, r_mk, r_meth, r_bi, r_ix, r_sl, r_ife, r_g, r_fld, r_comp, r_compR, r_dl, r_dct0, x_exC, x_exM, x_bm, x_retV, b_nil, b_cons, l_nil, l_cons, a_one, a_cons, o_one, o_cons, p_none, p_some, c_none, c_some, bi_ok, bi_exc, bl_ok, bl_exc, lb_ok, lb_exc, th_ok, th_exc, lt_ok, lt_exc, se_nx, se_rt, se_exc, en_nx, en_rt, en_exc, op_shr, op_fr, of_t, of_f, cur_shr, cur_fr, cur_ho, cur_hb, cur_hf, curs_nil, curs_cons, Pu.frz1, Pu.Fl.free, sh_nil, sh_shr, putAt_ho, putAt_fr, bmf_clr, bmf_clrD, bmf_rev, nsts_ho, nsts_fr, nsts_shr, nsts_hb, nsts_hf, ta_nil, ta_shr, ta_ho, ta_hb, ta_hf, Pu.asn, Pu.asn.asns, Pu.wipeS, Pu.frzS, Pu.frz1S, Pu.bfn, Pu.bmT, Pu.dlf, Pu.kOf, bo_add, bo_sub, Pu.cmpo, Pu.truthy, Pu.isTy, Pu.isN, eq_ii, eq_ss, eq_bb, eq_nn, eq_is, eq_si, eq_ni, eq_in, eq_ns, eq_sn, eq_nb, eq_bn, eq_bs, eq_sb, Pu.item, i_0, i_1, i_2, i_3, i_4, Pu.iter, Pu.okIt, Pu.dOf, Pu.dOfs, List.set_cons_zero, List.set_cons_succ, List.getElem?_cons_zero, List.getElem?_cons_succ, List.length_cons, List.length_nil, Option.bind_some, Option.map_some, Option.isSome_some, Option.bind_none, Option.map_none, Option.getD_some, Bool.not_true, Bool.not_false, Va.str.injEq, Va.int.injEq, Va.bl.injEq, Bool.false_eq_true, Bool.true_and, Bool.and_true, Bool.false_and, Bool.and_false, decide_true, decide_false, if_true, if_false, ite_true, ite_false, reduceCtorEq, and_self, true_and, and_true, gls, List.length_map, c2, e]
/-! ### mixed numbers -/
def prm (i : Nat) : Int := match i % 4 with
  | 0 => 48271
  | 1 => 16807
  | 2 => 69621
  | _ => 39373
def mix (c : Int) (i : Nat) : Int := ((c.fmod 1000000000039 + 7 * i + 3) * prm i * prm i).fmod 1000000000039
theorem mix_lo (c : Int) (i : Nat) : 0 ≤ mix c i := Int.fmod_nonneg_of_pos _ (by decide)
theorem mix_hi (c : Int) (i : Nat) : mix c i < 1000000000039 := Int.fmod_lt_of_pos _ (by decide)
theorem prm_pos (i : Nat) : 0 < prm i ∧ prm i < 100000 := by
  unfold prm
  split <;> omega
theorem prm_at (i : Nat) : Dl.atI [D.int 48271, .int 16807, .int 69621, .int 39373] ((i : Int).fmod 4) = some (.int (prm i)) := by
  have e : (i : Int).fmod 4 = ((i % 4 : Nat) : Int) := by
    rw [Int.fmod_eq_emod_of_nonneg _ (by decide)]
    omega
  rw [e]
  unfold prm
  have lt : i % 4 < 4 := Nat.mod_lt _ (by decide)
  generalize i % 4 = m at lt ⊢
  match m, lt with
  | 0, _ => rfl
  | 1, _ => rfl
  | 2, _ => rfl
  | 3, _ => rfl
theorem mixed_ok {k : Nat} {c : Int} {i : Nat} {O : Os} (hi : i < 100) : Pu.run Q (k + 1) i__law_mixed [.sh (.int c), .sh (.int i)] O = .ok (.int (mix c i)) .shr O := by
  rw [run_at (d := f__law_mixed) rfl rfl]
  obtain ⟨p0, p1⟩ := prm_pos i
  have c0 : 0 ≤ c.fmod 1000000000039 := Int.fmod_nonneg_of_pos _ (by decide)
  have c1 : c.fmod 1000000000039 < 1000000000039 := Int.fmod_lt_of_pos _ (by decide)
  have m1 : (7 : Int).natAbs.log2 + (i : Int).natAbs.log2 < 1000000 := mulS (by decide) (by omega)
  have m2 : (c.fmod 1000000000039 + 7 * (i : Int) + 3).natAbs.log2 + (prm i).natAbs.log2 < 1000000 := mulS (by omega) (by omega)
  have b3 : 0 ≤ (c.fmod 1000000000039 + 7 * (i : Int) + 3) * prm i := Int.mul_nonneg (by omega) (by omega)
  have b4 : (c.fmod 1000000000039 + 7 * (i : Int) + 3) * prm i < 2000000000000 * 100000 := by
    exact Int.mul_lt_mul (by omega) (by omega) p0 (by omega)
  have m3 : ((c.fmod 1000000000039 + 7 * (i : Int) + 3) * prm i).natAbs.log2 + (prm i).natAbs.log2 < 1000000 := mulS (by omega) (by omega)
  simp only [f__law_mixed, b_f__law_mixed, Pu.begin_, List.map_cons, List.map_nil, List.drop_nil, List.append_nil, List.nil_append, List.replicate, List.cons_append, e_v, e_k, e_g, e_tup, e_lst, e_dct0, e_bin, e_neg, e_nt, e_an, e_or, e_cmp, e_cmp2, e_call, e_mk, e_meth, e_bi, e_fld, e_ix, e_sl, e_ife, e_isx, e_dl, x_asg, x_par, x_fld, x_sub, x_retN, x_pass, x_ite, x_rse, x_try, x_tryn, x_frz, r_k, r_tup, r_lst, r_bin, r_neg, r_nt, r_an, r_or, r_cmp, r_cmp2, r_call, r_mk, r_meth, r_bi, r_ix, r_sl, r_ife, r_g, r_fld, r_comp, r_compR, r_dl, r_dct0, x_exC, x_exM, x_bm, x_retV, b_nil, b_cons, l_nil, l_cons, a_one, a_cons, o_one, o_cons, p_none, p_some, c_none, c_some, bi_ok, bi_exc, bl_ok, bl_exc, lb_ok, lb_exc, th_ok, th_exc, lt_ok, lt_exc, se_nx, se_rt, se_exc, en_nx, en_rt, en_exc, op_shr, op_fr, of_t, of_f, cur_shr, cur_fr, cur_ho, cur_hb, cur_hf, curs_nil, curs_cons, Pu.frz1, Pu.Fl.free, sh_nil, sh_shr, putAt_ho, putAt_fr, bmf_clr, bmf_clrD, bmf_rev, nsts_ho, nsts_fr, nsts_shr, nsts_hb, nsts_hf, ta_nil, ta_shr, ta_ho, ta_hb, ta_hf, Pu.asn, Pu.asn.asns, Pu.wipeS, Pu.frzS, Pu.frz1S, Pu.bfn, Pu.bmT, Pu.dlf, Pu.kOf, bo_add, bo_sub, Pu.cmpo, Pu.truthy, Pu.isTy, Pu.isN, eq_ii, eq_ss, eq_bb, eq_nn, eq_is, eq_si, eq_ni, eq_in, eq_ns, eq_sn, eq_nb, eq_bn, eq_bs, eq_sb, Pu.item, i_0, i_1, i_2, i_3, i_4, Pu.iter, Pu.okIt, Pu.dOf, Pu.dOfs, List.set_cons_zero, List.set_cons_succ, List.getElem?_cons_zero, List.getElem?_cons_succ, List.length_cons, List.length_nil, Option.bind_some, Option.map_some, Option.isSome_some, Option.bind_none, Option.map_none, Option.getD_some, Bool.not_true, Bool.not_false, Va.str.injEq, Va.int.injEq, Va.bl.injEq, Bool.false_eq_true, Bool.true_and, Bool.and_true, Bool.false_and, Bool.and_false, decide_true, decide_false, if_true, if_false, ite_true, ite_false, reduceCtorEq, and_self, true_and, and_true, gls, prm_at, bo_mod (b := 4) (by decide), bo_mod (b := 1000000000039) (by decide), bo_mul m1, bo_mul m2, bo_mul m3]
  rfl
theorem mixed0 {k : Nat} {c : Int} {O : Os} : Pu.run Q (k + 1) i__law_mixed [.sh (.int c), .sh (.int 0)] O = .ok (.int (mix c 0)) .shr O := mixed_ok (i := 0) (by decide)
theorem mixed1 {k : Nat} {c : Int} {O : Os} : Pu.run Q (k + 1) i__law_mixed [.sh (.int c), .sh (.int 1)] O = .ok (.int (mix c 1)) .shr O := mixed_ok (i := 1) (by decide)
theorem mixed2 {k : Nat} {c : Int} {O : Os} : Pu.run Q (k + 1) i__law_mixed [.sh (.int c), .sh (.int 2)] O = .ok (.int (mix c 2)) .shr O := mixed_ok (i := 2) (by decide)
theorem mixed3 {k : Nat} {c : Int} {O : Os} : Pu.run Q (k + 1) i__law_mixed [.sh (.int c), .sh (.int 3)] O = .ok (.int (mix c 3)) .shr O := mixed_ok (i := 3) (by decide)
end K82
set_option Elab.async false
set_option linter.all false
set_option maxRecDepth 100000
set_option maxHeartbeats 4000000
namespace K82
open Pu
open Dl (Va Ex Sm Tg Fn)
open PySem (Str sizeLine PyData)
/-! ### the pool of names -/
theorem az_len : az.length = 26 := by decide +kernel
theorem az_nd : az.Nodup := by decide +kernel
theorem azS_len : azS.length ≤ sizeLine := by decide +kernel
def azc (m : Nat) : Nat := az.getD m 0
theorem azc_mem {m : Nat} (h : m < 26) : azc m ∈ az := by
  unfold azc
  rw [List.getD_eq_getElem?_getD, List.getElem?_eq_getElem (by rw [az_len]; exact h)]
  exact List.getElem_mem _
theorem azc_inj {m n : Nat} (hm : m < 26) (hn : n < 26) (e : azc m = azc n) : m = n := by
  unfold azc at e
  rw [List.getD_eq_getElem?_getD, List.getD_eq_getElem?_getD, List.getElem?_eq_getElem (by rw [az_len]; exact hm), List.getElem?_eq_getElem (by rw [az_len]; exact hn)] at e
  exact (List.getElem_inj az_nd).mp e
def Tagged (md : Bool) (at_ : Nat) (w : Int) (i : Nat) (s : Str) : Prop := if md = true then s.length = i + 1 else s.cps.toList[at_]? = some (azc ((w + i).fmod 26).toNat)
theorem tag_inj {md : Bool} {at_ : Nat} {w : Int} {i j : Nat} {s : Str} (a : Tagged md at_ w i s) (b : Tagged md at_ w j s) (hi : i < 7) (hj : j < 7) : i = j := by
  unfold Tagged at a b
  cases md with
  | true =>
    rw [if_pos rfl] at a b
    omega
  | false =>
    rw [if_neg (by decide)] at a b
    rw [a] at b
    have l1 := Int.fmod_nonneg_of_pos (w + i) (b := 26) (by decide)
    have l2 := Int.fmod_lt_of_pos (w + i) (b := 26) (by decide)
    have l3 := Int.fmod_nonneg_of_pos (w + j) (b := 26) (by decide)
    have l4 := Int.fmod_lt_of_pos (w + j) (b := 26) (by decide)
    have e := azc_inj (by omega) (by omega) (Option.some.inj b)
    have e2 : (w + i).fmod 26 = (w + j).fmod 26 := by omega
    rw [Int.fmod_eq_emod_of_nonneg _ (by decide), Int.fmod_eq_emod_of_nonneg _ (by decide)] at e2
    omega
structure Pool (l : List Str) : Prop where
  len : l.length = 7
  good : ∀ s ∈ l, Good s
  nd : l.Nodup
theorem letter_at {x : Int} : Dl.atI az (x.fmod 26) = some (azc (x.fmod 26).toNat) := by
  have l1 := Int.fmod_nonneg_of_pos x (b := 26) (by decide)
  have l2 := Int.fmod_lt_of_pos x (b := 26) (by decide)
  obtain ⟨m, hm⟩ : ∃ m : Nat, x.fmod 26 = (m : Int) := ⟨(x.fmod 26).toNat, by omega⟩
  rw [hm, i_nat, Int.toNat_natCast]
  unfold azc
  rw [List.getD_eq_getElem?_getD, List.getElem?_eq_getElem (by rw [az_len]; omega)]
  rfl
theorem app_len {a b : Str} : (a ++ b).length = a.length + b.length := by
  show (a.cps ++ b.cps).size = _
  rw [Array.size_append]
  rfl
theorem app_list {a b : Str} : (a ++ b).cps.toList = a.cps.toList ++ b.cps.toList := by
  show (a.cps ++ b.cps).toList = _
  simp
theorem str_len {a : Str} : a.length = a.cps.toList.length := by
  show a.cps.size = _
  simp
def inner : List Sm := [.asg (.nm 7) (.bin .add (.v 7) (.ix (.v 1) (.bin .mod (.bin .add (.bin .mul (.ix (.v 4) (.v 8)) (.bi .int [(.or [(.cmp .eq (.bin .mod (.bin .fdiv (.v 0) (.k (.int 64))) (.k (.int 2))) (.k (.int 0))), (.cmp .eq (.v 8) (.v 3))])])) (.bin .mul (.v 6) (.bi .int [(.cmp .eq (.v 8) (.v 3))]))) (.k (.int 26)))))]
theorem inner_ok {k : Nat} {c : Int} {size at_ : Nat} {W : List Int} {kk : Nat} {O : Os} (hs : size ≤ 8) (hW : W.length = 8) (hb : ∀ w ∈ W, 0 ≤ w ∧ w < 26) (hk : kk < 7) (N : Sl) (y : Sl) :
    ∃ (nm : Str) (y' : Sl), exS (cf k) (.frR (.nm 8) [(.v 2)] inner) [.sh (.int c), .sh (.str azS), .sh (.int size), .sh (.int at_), .ow (.lst (W.map .int)), N, .sh (.int kk), .sh (.str ""), y] O =
      .nx [.sh (.int c), .sh (.str azS), .sh (.int size), .sh (.int at_), .ow (.lst (W.map .int)), N, .sh (.int kk), .sh (.str nm), y'] O ∧ nm.length = size ∧ (∀ x ∈ nm.cps.toList, x ∈ az) ∧ (at_ < size → nm.cps.toList[at_]? = some (azc ((W.getD at_ 0 + kk).fmod 26).toNat)) := by
  obtain ⟨s', O', e, hO, nm, y', rfl, n1, n2, n3⟩ := goS_inv (st := fun _ => true) (f := turnS (cf k) (.nm 8) inner) (fun p t O' => O = O' ∧ ∃ (nm : Str) (y' : Sl), t = [.sh (.int c), .sh (.str azS), .sh (.int size), .sh (.int at_), .ow (.lst (W.map .int)), N, .sh (.int kk), .sh (.str nm), y'] ∧
      nm.length = p.length ∧ (∀ x ∈ nm.cps.toList, x ∈ az) ∧ (at_ < p.length → nm.cps.toList[at_]? = some (azc ((W.getD at_ 0 + kk).fmod 26).toNat))) (l := rangeI 0 size) (s := [.sh (.int c), .sh (.str azS), .sh (.int size), .sh (.int at_), .ow (.lst (W.map .int)), N, .sh (.int kk), .sh (.str ""), y]) (O := O)
      ⟨rfl, "", y, rfl, rfl, fun x hx => absurd hx (by decide +revert), fun z => absurd z (by simp)⟩ (fun _ _ _ _ => rfl) fun p x q e t O' ⟨e1, nm, y', e2, n1, n2, n3⟩ => by
    subst e1 e2
    obtain ⟨rfl, lt⟩ := rangeI_split e
    simp only [List.length_append, List.length_singleton]
    generalize p.length = j at *
    have hj : j < W.length := by omega
    obtain ⟨w0, w1⟩ := hb _ (List.getElem_mem hj)
    have ew : (W.map D.int)[j]? = some (.int W[j]) := by simp [hj]
    generalize hwj : W[j] = wj at *
    have m11 : wj.natAbs.log2 + (1 : Int).natAbs.log2 < 1000000 := mulS (by omega) (by decide)
    have m10 : wj.natAbs.log2 + (0 : Int).natAbs.log2 < 1000000 := mulS (by omega) (by decide)
    have m21 : (kk : Int).natAbs.log2 + (1 : Int).natAbs.log2 < 1000000 := mulS (by omega) (by decide)
    have m20 : (kk : Int).natAbs.log2 + (0 : Int).natAbs.log2 < 1000000 := mulS (by omega) (by decide)
    have sz : ∀ m : Nat, nm.length + (⟨#[m]⟩ : Str).length ≤ sizeLine := fun m => by
      have : (⟨#[m]⟩ : Str).length = 1 := rfl
      have := le1000
      omega
    have z0 : (0 : Int) + (j : Int) = (j : Int) := by omega
    have fin : ∀ m : Int, (at_ = j → (m.fmod 26) = ((W.getD at_ 0 + kk).fmod 26)) → (nm ++ (⟨#[azc (m.fmod 26).toNat]⟩ : Str)).length = j + 1 ∧ (∀ x ∈ (nm ++ (⟨#[azc (m.fmod 26).toNat]⟩ : Str)).cps.toList, x ∈ az) ∧ (at_ < j + 1 → (nm ++ (⟨#[azc (m.fmod 26).toNat]⟩ : Str)).cps.toList[at_]? = some (azc ((W.getD at_ 0 + kk).fmod 26).toNat)) := fun m hm => by
      refine ⟨by rw [app_len, n1]; rfl, fun x hx => ?_, fun z => ?_⟩
      · rw [app_list] at hx
        rcases List.mem_append.mp hx with hx | hx
        · exact n2 x hx
        · have : x = azc (m.fmod 26).toNat := by simpa using hx
          rw [this]
          have l1 := Int.fmod_nonneg_of_pos m (b := 26) (by decide)
          have l2 := Int.fmod_lt_of_pos m (b := 26) (by decide)
          exact azc_mem (by omega)
      · by_cases lt2 : at_ < j
        · rw [app_list, List.getElem?_append_left (by rw [← str_len, n1]; exact lt2)]
          exact n3 lt2
        · have ea : at_ = j := by omega
          have hm := hm ea
          rw [app_list, List.getElem?_append_right (by rw [← str_len, n1, ea]; exact Nat.le_refl _), ← str_len, n1, ea, Nat.sub_self]
          rw [ea] at hm
          rw [← hm]
          rfl
    by_cases hat : j = at_
    · subst hat
      have wd : W.getD j 0 = wj := by rw [List.getD_eq_getElem?_getD, List.getElem?_eq_getElem hj, hwj]; rfl
      refine ⟨_, O, ?_, rfl, nm ++ ⟨#[azc ((wj * 1 + kk * 1).fmod 26).toNat]⟩, .sh (.int j), rfl, fin _ fun _ => by rw [wd]; simp⟩
      by_cases ev : (c.fdiv 64).fmod 2 = 0
      · simp only [turn_ap, inner, e_v, e_k, e_g, e_tup, e_lst, e_dct0, e_bin, e_neg, e_nt, e_an, e_or, e_cmp, e_cmp2, e_call, e_mk, e_meth, e_bi, e_fld, e_ix, e_sl, e_ife, e_isx, e_dl, x_asg, x_par, x_fld, x_sub, x_retN, x_pass, x_ite, x_rse, x_try, x_tryn, x_frz, r_k, r_tup, r_lst, r_bin, r_neg, r_nt, r_an, r_or, r_cmp, r_cmp2, r_call, r_mk, r_meth, r_bi, r_ix, r_sl, r_ife, r_g, r_fld, r_comp, r_compR, r_dl, r_dct0, x_exC, x_exM, x_bm, x_retV, b_nil, b_cons, l_nil, l_cons, a_one, a_cons, o_one, o_cons, p_none, p_some, c_none, c_some, bi_ok, bi_exc, bl_ok, bl_exc, lb_ok, lb_exc, th_ok, th_exc, lt_ok, lt_exc, se_nx, se_rt, se_exc, en_nx, en_rt, en_exc, op_shr, op_fr, of_t, of_f, cur_shr, cur_fr, cur_ho, cur_hb, cur_hf, curs_nil, curs_cons, Pu.frz1, Pu.Fl.free, sh_nil, sh_shr, putAt_ho, putAt_fr, bmf_clr, bmf_clrD, bmf_rev, nsts_ho, nsts_fr, nsts_shr, nsts_hb, nsts_hf, ta_nil, ta_shr, ta_ho, ta_hb, ta_hf, Pu.asn, Pu.asn.asns, Pu.wipeS, Pu.frzS, Pu.frz1S, Pu.bfn, Pu.bmT, Pu.dlf, Pu.kOf, bo_add, bo_sub, Pu.cmpo, Pu.truthy, Pu.isTy, Pu.isN, eq_ii, eq_ss, eq_bb, eq_nn, eq_is, eq_si, eq_ni, eq_in, eq_ns, eq_sn, eq_nb, eq_bn, eq_bs, eq_sb, Pu.item, i_0, i_1, i_2, i_3, i_4, Pu.iter, Pu.okIt, Pu.dOf, Pu.dOfs, List.set_cons_zero, List.set_cons_succ, List.getElem?_cons_zero, List.getElem?_cons_succ, List.length_cons, List.length_nil, Option.bind_some, Option.map_some, Option.isSome_some, Option.bind_none, Option.map_none, Option.getD_some, Bool.not_true, Bool.not_false, Va.str.injEq, Va.int.injEq, Va.bl.injEq, Bool.false_eq_true, Bool.true_and, Bool.and_true, Bool.false_and, Bool.and_false, decide_true, decide_false, if_true, if_false, ite_true, ite_false, reduceCtorEq, and_self, true_and, and_true, gls, z0, i_nat, ew, bo_fdiv (b := 64) ⟨by decide, by decide⟩, bo_mod (b := 2) (by decide), bo_mod (b := 26) (by decide), ev, bo_mul m11, bo_mul m21, azS_len, letter_at, bo_str (sz _)]
      · simp only [turn_ap, inner, e_v, e_k, e_g, e_tup, e_lst, e_dct0, e_bin, e_neg, e_nt, e_an, e_or, e_cmp, e_cmp2, e_call, e_mk, e_meth, e_bi, e_fld, e_ix, e_sl, e_ife, e_isx, e_dl, x_asg, x_par, x_fld, x_sub, x_retN, x_pass, x_ite, x_rse, x_try, x_tryn, x_frz, r_k, r_tup, r_lst, r_bin, r_neg, r_nt, r_an, r_or, r_cmp, r_cmp2, r_call, r_mk, r_meth, r_bi, r_ix, r_sl, r_ife, r_g, r_fld, r_comp, r_compR, r_dl, r_dct0, x_exC, x_exM, x_bm, x_retV, b_nil, b_cons, l_nil, l_cons, a_one, a_cons, o_one, o_cons, p_none, p_some, c_none, c_some, bi_ok, bi_exc, bl_ok, bl_exc, lb_ok, lb_exc, th_ok, th_exc, lt_ok, lt_exc, se_nx, se_rt, se_exc, en_nx, en_rt, en_exc, op_shr, op_fr, of_t, of_f, cur_shr, cur_fr, cur_ho, cur_hb, cur_hf, curs_nil, curs_cons, Pu.frz1, Pu.Fl.free, sh_nil, sh_shr, putAt_ho, putAt_fr, bmf_clr, bmf_clrD, bmf_rev, nsts_ho, nsts_fr, nsts_shr, nsts_hb, nsts_hf, ta_nil, ta_shr, ta_ho, ta_hb, ta_hf, Pu.asn, Pu.asn.asns, Pu.wipeS, Pu.frzS, Pu.frz1S, Pu.bfn, Pu.bmT, Pu.dlf, Pu.kOf, bo_add, bo_sub, Pu.cmpo, Pu.truthy, Pu.isTy, Pu.isN, eq_ii, eq_ss, eq_bb, eq_nn, eq_is, eq_si, eq_ni, eq_in, eq_ns, eq_sn, eq_nb, eq_bn, eq_bs, eq_sb, Pu.item, i_0, i_1, i_2, i_3, i_4, Pu.iter, Pu.okIt, Pu.dOf, Pu.dOfs, List.set_cons_zero, List.set_cons_succ, List.getElem?_cons_zero, List.getElem?_cons_succ, List.length_cons, List.length_nil, Option.bind_some, Option.map_some, Option.isSome_some, Option.bind_none, Option.map_none, Option.getD_some, Bool.not_true, Bool.not_false, Va.str.injEq, Va.int.injEq, Va.bl.injEq, Bool.false_eq_true, Bool.true_and, Bool.and_true, Bool.false_and, Bool.and_false, decide_true, decide_false, if_true, if_false, ite_true, ite_false, reduceCtorEq, and_self, true_and, and_true, gls, z0, i_nat, ew, bo_fdiv (b := 64) ⟨by decide, by decide⟩, bo_mod (b := 2) (by decide), bo_mod (b := 26) (by decide), ev, bo_mul m11, bo_mul m21, azS_len, letter_at, bo_str (sz _)]
    · have hat2 : ¬ (j : Int) = (at_ : Int) := by omega
      by_cases ev : (c.fdiv 64).fmod 2 = 0
      · refine ⟨_, O, ?_, rfl, nm ++ ⟨#[azc ((wj * 1 + kk * 0).fmod 26).toNat]⟩, .sh (.int j), rfl, fin _ fun z => absurd z.symm hat⟩
        simp only [turn_ap, inner, e_v, e_k, e_g, e_tup, e_lst, e_dct0, e_bin, e_neg, e_nt, e_an, e_or, e_cmp, e_cmp2, e_call, e_mk, e_meth, e_bi, e_fld, e_ix, e_sl, e_ife, e_isx, e_dl, x_asg, x_par, x_fld, x_sub, x_retN, x_pass, x_ite, x_rse, x_try, x_tryn, x_frz, r_k, r_tup, r_lst, r_bin, r_neg, r_nt, r_an, r_or, r_cmp, r_cmp2, r_call, r_mk, r_meth, r_bi, r_ix, r_sl, r_ife, r_g, r_fld, r_comp, r_compR, r_dl, r_dct0, x_exC, x_exM, x_bm, x_retV, b_nil, b_cons, l_nil, l_cons, a_one, a_cons, o_one, o_cons, p_none, p_some, c_none, c_some, bi_ok, bi_exc, bl_ok, bl_exc, lb_ok, lb_exc, th_ok, th_exc, lt_ok, lt_exc, se_nx, se_rt, se_exc, en_nx, en_rt, en_exc, op_shr, op_fr, of_t, of_f, cur_shr, cur_fr, cur_ho, cur_hb, cur_hf, curs_nil, curs_cons, Pu.frz1, Pu.Fl.free, sh_nil, sh_shr, putAt_ho, putAt_fr, bmf_clr, bmf_clrD, bmf_rev, nsts_ho, nsts_fr, nsts_shr, nsts_hb, nsts_hf, ta_nil, ta_shr, ta_ho, ta_hb, ta_hf, Pu.asn, Pu.asn.asns, Pu.wipeS, Pu.frzS, Pu.frz1S, Pu.bfn, Pu.bmT, Pu.dlf, Pu.kOf, bo_add, bo_sub, Pu.cmpo, Pu.truthy, Pu.isTy, Pu.isN, eq_ii, eq_ss, eq_bb, eq_nn, eq_is, eq_si, eq_ni, eq_in, eq_ns, eq_sn, eq_nb, eq_bn, eq_bs, eq_sb, Pu.item, i_0, i_1, i_2, i_3, i_4, Pu.iter, Pu.okIt, Pu.dOf, Pu.dOfs, List.set_cons_zero, List.set_cons_succ, List.getElem?_cons_zero, List.getElem?_cons_succ, List.length_cons, List.length_nil, Option.bind_some, Option.map_some, Option.isSome_some, Option.bind_none, Option.map_none, Option.getD_some, Bool.not_true, Bool.not_false, Va.str.injEq, Va.int.injEq, Va.bl.injEq, Bool.false_eq_true, Bool.true_and, Bool.and_true, Bool.false_and, Bool.and_false, decide_true, decide_false, if_true, if_false, ite_true, ite_false, reduceCtorEq, and_self, true_and, and_true, gls, z0, i_nat, ew, bo_fdiv (b := 64) ⟨by decide, by decide⟩, bo_mod (b := 2) (by decide), bo_mod (b := 26) (by decide), ev, hat2, bo_mul m11, bo_mul m20, azS_len, letter_at, bo_str (sz _)]
      · refine ⟨_, O, ?_, rfl, nm ++ ⟨#[azc ((wj * 0 + kk * 0).fmod 26).toNat]⟩, .sh (.int j), rfl, fin _ fun z => absurd z.symm hat⟩
        simp only [turn_ap, inner, e_v, e_k, e_g, e_tup, e_lst, e_dct0, e_bin, e_neg, e_nt, e_an, e_or, e_cmp, e_cmp2, e_call, e_mk, e_meth, e_bi, e_fld, e_ix, e_sl, e_ife, e_isx, e_dl, x_asg, x_par, x_fld, x_sub, x_retN, x_pass, x_ite, x_rse, x_try, x_tryn, x_frz, r_k, r_tup, r_lst, r_bin, r_neg, r_nt, r_an, r_or, r_cmp, r_cmp2, r_call, r_mk, r_meth, r_bi, r_ix, r_sl, r_ife, r_g, r_fld, r_comp, r_compR, r_dl, r_dct0, x_exC, x_exM, x_bm, x_retV, b_nil, b_cons, l_nil, l_cons, a_one, a_cons, o_one, o_cons, p_none, p_some, c_none, c_some, bi_ok, bi_exc, bl_ok, bl_exc, lb_ok, lb_exc, th_ok, th_exc, lt_ok, lt_exc, se_nx, se_rt, se_exc, en_nx, en_rt, en_exc, op_shr, op_fr, of_t, of_f, cur_shr, cur_fr, cur_ho, cur_hb, cur_hf, curs_nil, curs_cons, Pu.frz1, Pu.Fl.free, sh_nil, sh_shr, putAt_ho, putAt_fr, bmf_clr, bmf_clrD, bmf_rev, nsts_ho, nsts_fr, nsts_shr, nsts_hb, nsts_hf, ta_nil, ta_shr, ta_ho, ta_hb, ta_hf, Pu.asn, Pu.asn.asns, Pu.wipeS, Pu.frzS, Pu.frz1S, Pu.bfn, Pu.bmT, Pu.dlf, Pu.kOf, bo_add, bo_sub, Pu.cmpo, Pu.truthy, Pu.isTy, Pu.isN, eq_ii, eq_ss, eq_bb, eq_nn, eq_is, eq_si, eq_ni, eq_in, eq_ns, eq_sn, eq_nb, eq_bn, eq_bs, eq_sb, Pu.item, i_0, i_1, i_2, i_3, i_4, Pu.iter, Pu.okIt, Pu.dOf, Pu.dOfs, List.set_cons_zero, List.set_cons_succ, List.getElem?_cons_zero, List.getElem?_cons_succ, List.length_cons, List.length_nil, Option.bind_some, Option.map_some, Option.isSome_some, Option.bind_none, Option.map_none, Option.getD_some, Bool.not_true, Bool.not_false, Va.str.injEq, Va.int.injEq, Va.bl.injEq, Bool.false_eq_true, Bool.true_and, Bool.and_true, Bool.false_and, Bool.and_false, decide_true, decide_false, if_true, if_false, ite_true, ite_false, reduceCtorEq, and_self, true_and, and_true, gls, z0, i_nat, ew, bo_fdiv (b := 64) ⟨by decide, by decide⟩, bo_mod (b := 2) (by decide), bo_mod (b := 26) (by decide), ev, hat2, bo_mul m10, bo_mul m20, azS_len, letter_at, bo_str (sz _)]
  subst hO
  rw [rangeI_len] at n1 n3
  refine ⟨nm, y', ?_, n1, n2, n3⟩
  rw [x_frR (vs := [(.int size, .shr)]) (O1 := O) (by simp only [e_v, e_k, e_g, e_tup, e_lst, e_dct0, e_bin, e_neg, e_nt, e_an, e_or, e_cmp, e_cmp2, e_call, e_mk, e_meth, e_bi, e_fld, e_ix, e_sl, e_ife, e_isx, e_dl, x_asg, x_par, x_fld, x_sub, x_retN, x_pass, x_ite, x_rse, x_try, x_tryn, x_frz, r_k, r_tup, r_lst, r_bin, r_neg, r_nt, r_an, r_or, r_cmp, r_cmp2, r_call, r_mk, r_meth, r_bi, r_ix, r_sl, r_ife, r_g, r_fld, r_comp, r_compR, r_dl, r_dct0, x_exC, x_exM, x_bm, x_retV, b_nil, b_cons, l_nil, l_cons, a_one, a_cons, o_one, o_cons, p_none, p_some, c_none, c_some, bi_ok, bi_exc, bl_ok, bl_exc, lb_ok, lb_exc, th_ok, th_exc, lt_ok, lt_exc, se_nx, se_rt, se_exc, en_nx, en_rt, en_exc, op_shr, op_fr, of_t, of_f, cur_shr, cur_fr, cur_ho, cur_hb, cur_hf, curs_nil, curs_cons, Pu.frz1, Pu.Fl.free, sh_nil, sh_shr, putAt_ho, putAt_fr, bmf_clr, bmf_clrD, bmf_rev, nsts_ho, nsts_fr, nsts_shr, nsts_hb, nsts_hf, ta_nil, ta_shr, ta_ho, ta_hb, ta_hf, Pu.asn, Pu.asn.asns, Pu.wipeS, Pu.frzS, Pu.frz1S, Pu.bfn, Pu.bmT, Pu.dlf, Pu.kOf, bo_add, bo_sub, Pu.cmpo, Pu.truthy, Pu.isTy, Pu.isN, eq_ii, eq_ss, eq_bb, eq_nn, eq_is, eq_si, eq_ni, eq_in, eq_ns, eq_sn, eq_nb, eq_bn, eq_bs, eq_sb, Pu.item, i_0, i_1, i_2, i_3, i_4, Pu.iter, Pu.okIt, Pu.dOf, Pu.dOfs, List.set_cons_zero, List.set_cons_succ, List.getElem?_cons_zero, List.getElem?_cons_succ, List.length_cons, List.length_nil, Option.bind_some, Option.map_some, Option.isSome_some, Option.bind_none, Option.map_none, Option.getD_some, Bool.not_true, Bool.not_false, Va.str.injEq, Va.int.injEq, Va.bl.injEq, Bool.false_eq_true, Bool.true_and, Bool.and_true, Bool.false_and, Bool.and_false, decide_true, decide_false, if_true, if_false, ite_true, ite_false, reduceCtorEq, and_self, true_and, and_true]) (rng_nat (by omega))]
  exact e
def outer : List Sm := [.asg (.nm 7) (.k (.str "")), .frR (.nm 8) [(.v 2)] inner, .ite (.cmp .eq (.bin .mod (.bin .fdiv (.v 0) (.k (.int 512))) (.k (.int 5))) (.k (.int 1))) [.asg (.nm 7) (.sl (.k (.str "abcdefgh")) none (some (.bin .add (.v 6) (.k (.int 1)))))] [], .ite (.an [(.cmp .eq (.bin .mod (.bin .fdiv (.v 0) (.k (.int 512))) (.k (.int 5))) (.k (.int 3))), (.cmp .lt (.v 2) (.k (.int 8)))]) [.asg (.nm 7) (.bin .add (.v 7) (.bin .mul (.k (.str "a")) (.bin .mod (.v 6) (.k (.int 2)))))] [], .ex (.bm .append (.v 5) [(.v 7)])]
def cutS (i : Nat) : Str := ⟨(Dl.cut ("abcdefgh" : Str).cps.toList none (some ((i : Int) + 1))).toArray⟩
theorem cutS_ok : ∀ i < 7, (cutS i).length = i + 1 ∧ ∀ x ∈ (cutS i).cps.toList, x ∈ az := by decide +kernel
theorem abc_len : ("abcdefgh" : Str).length ≤ sizeLine := Nat.le_trans (show ("abcdefgh" : Str).length ≤ 1000 by decide +kernel) le1000
theorem mulS0 {x : Str} : binop .mul (.str x) (.int 0) = some (.str ⟨#[]⟩, false) := rfl
theorem mulS1 {x : Str} : binop .mul (.str x) (.int 1) = some (.str x, false) := rfl
theorem outer_turn {k : Nat} {c : Int} {size at_ : Nat} {W : List Int} {i : Nat} {O : Os} {L : List Str} (hs1 : 1 ≤ size) (hs : size ≤ 8) (hat : at_ < size) (hW : W.length = 8) (hb : ∀ w ∈ W, 0 ≤ w ∧ w < 26) (hL : L.length ≤ 10) (hk : i < 7) (y6 y7 y8 : Sl) :
    ∃ (N : Str) (y7' y8' : Sl), turnS (cf k) (.nm 6) outer (.int i) [.sh (.int c), .sh (.str azS), .sh (.int size), .sh (.int at_), .ow (.lst (W.map .int)), .ow (.lst (L.map .str)), y6, y7, y8] O =
      .nx [.sh (.int c), .sh (.str azS), .sh (.int size), .sh (.int at_), .ow (.lst (W.map .int)), .ow (.lst (L.map .str ++ [.str N])), .sh (.int i), y7', y8'] O ∧ Good N ∧ Tagged (decide ((c.fdiv 512).fmod 5 = 1)) at_ (W.getD at_ 0) i N := by
  obtain ⟨nm, y', e, n1, n2, n3⟩ := inner_ok (k := k) (c := c) (at_ := at_) (O := O) hs hW hb hk (.ow (.lst (L.map .str))) y8
  have n4 := n3 hat
  have gn : Good nm := ⟨by omega, by omega, n2⟩
  have lL : (L.map D.str).length < sizeLine := by
    have := le1000
    rw [List.length_map]
    omega
  have app : ∀ N : Str, bmf .append (.lst (L.map D.str)) [.str N] = some (.lst (L.map D.str ++ [.str N])) := fun N => bmf_app lL
  by_cases m1 : (c.fdiv 512).fmod 5 = 1
  · obtain ⟨c1, c2⟩ := cutS_ok i hk
    have m3 : ¬ (1 : Int) = 3 := by decide
    refine ⟨cutS i, .sh (.str (cutS i)), y', ?_, ⟨by omega, by omega, c2⟩, ?_⟩
    · simp only [turn_ap, outer, e_v, e_k, e_g, e_tup, e_lst, e_dct0, e_bin, e_neg, e_nt, e_an, e_or, e_cmp, e_cmp2, e_call, e_mk, e_meth, e_bi, e_fld, e_ix, e_sl, e_ife, e_isx, e_dl, x_asg, x_par, x_fld, x_sub, x_retN, x_pass, x_ite, x_rse, x_try, x_tryn, x_frz, r_k, r_tup, r_lst, r_bin, r_neg, r_nt, r_an, r_or, r_cmp, r_cmp2, r_call, r_mk, r_meth, r_bi, r_ix, r_sl, r_ife, r_g, r_fld, r_comp, r_compR, r_dl, r_dct0, x_exC, x_exM, x_bm, x_retV, b_nil, b_cons, l_nil, l_cons, a_one, a_cons, o_one, o_cons, p_none, p_some, c_none, c_some, bi_ok, bi_exc, bl_ok, bl_exc, lb_ok, lb_exc, th_ok, th_exc, lt_ok, lt_exc, se_nx, se_rt, se_exc, en_nx, en_rt, en_exc, op_shr, op_fr, of_t, of_f, cur_shr, cur_fr, cur_ho, cur_hb, cur_hf, curs_nil, curs_cons, Pu.frz1, Pu.Fl.free, sh_nil, sh_shr, putAt_ho, putAt_fr, bmf_clr, bmf_clrD, bmf_rev, nsts_ho, nsts_fr, nsts_shr, nsts_hb, nsts_hf, ta_nil, ta_shr, ta_ho, ta_hb, ta_hf, Pu.asn, Pu.asn.asns, Pu.wipeS, Pu.frzS, Pu.frz1S, Pu.bfn, Pu.bmT, Pu.dlf, Pu.kOf, bo_add, bo_sub, Pu.cmpo, Pu.truthy, Pu.isTy, Pu.isN, eq_ii, eq_ss, eq_bb, eq_nn, eq_is, eq_si, eq_ni, eq_in, eq_ns, eq_sn, eq_nb, eq_bn, eq_bs, eq_sb, Pu.item, i_0, i_1, i_2, i_3, i_4, Pu.iter, Pu.okIt, Pu.dOf, Pu.dOfs, List.set_cons_zero, List.set_cons_succ, List.getElem?_cons_zero, List.getElem?_cons_succ, List.length_cons, List.length_nil, Option.bind_some, Option.map_some, Option.isSome_some, Option.bind_none, Option.map_none, Option.getD_some, Bool.not_true, Bool.not_false, Va.str.injEq, Va.int.injEq, Va.bl.injEq, Bool.false_eq_true, Bool.true_and, Bool.and_true, Bool.false_and, Bool.and_false, decide_true, decide_false, if_true, if_false, ite_true, ite_false, reduceCtorEq, and_self, true_and, and_true, gls, e, bo_fdiv (b := 512) ⟨by decide, by decide⟩, bo_mod (b := 5) (by decide), m1, m3, slc, abc_len, app, cutS]
    · unfold Tagged
      rw [if_pos (decide_eq_true m1)]
      exact c1
  · by_cases m3 : (c.fdiv 512).fmod 5 = 3
    · have n31 : ¬ (3 : Int) = 1 := by decide
      by_cases s8 : size < 8
      · have s8' : (size : Int) < 8 := by omega
        have i2 : (i : Int).fmod 2 = 0 ∨ (i : Int).fmod 2 = 1 := by
          rw [Int.fmod_eq_emod_of_nonneg _ (by decide)]
          omega
        rcases i2 with i2 | i2
        · have z : nm.length + (⟨#[]⟩ : Str).length ≤ sizeLine := by
            have : (⟨#[]⟩ : Str).length = 0 := rfl
            have := le1000
            omega
          refine ⟨nm ++ ⟨#[]⟩, .sh (.str (nm ++ ⟨#[]⟩)), y', ?_, ⟨by rw [app_len]; show 1 ≤ nm.length + 0; omega, by rw [app_len]; show nm.length + 0 ≤ 8; omega, fun x hx => by rw [app_list] at hx; exact n2 x (by simpa using hx)⟩, ?_⟩
          · simp only [turn_ap, outer, e_v, e_k, e_g, e_tup, e_lst, e_dct0, e_bin, e_neg, e_nt, e_an, e_or, e_cmp, e_cmp2, e_call, e_mk, e_meth, e_bi, e_fld, e_ix, e_sl, e_ife, e_isx, e_dl, x_asg, x_par, x_fld, x_sub, x_retN, x_pass, x_ite, x_rse, x_try, x_tryn, x_frz, r_k, r_tup, r_lst, r_bin, r_neg, r_nt, r_an, r_or, r_cmp, r_cmp2, r_call, r_mk, r_meth, r_bi, r_ix, r_sl, r_ife, r_g, r_fld, r_comp, r_compR, r_dl, r_dct0, x_exC, x_exM, x_bm, x_retV, b_nil, b_cons, l_nil, l_cons, a_one, a_cons, o_one, o_cons, p_none, p_some, c_none, c_some, bi_ok, bi_exc, bl_ok, bl_exc, lb_ok, lb_exc, th_ok, th_exc, lt_ok, lt_exc, se_nx, se_rt, se_exc, en_nx, en_rt, en_exc, op_shr, op_fr, of_t, of_f, cur_shr, cur_fr, cur_ho, cur_hb, cur_hf, curs_nil, curs_cons, Pu.frz1, Pu.Fl.free, sh_nil, sh_shr, putAt_ho, putAt_fr, bmf_clr, bmf_clrD, bmf_rev, nsts_ho, nsts_fr, nsts_shr, nsts_hb, nsts_hf, ta_nil, ta_shr, ta_ho, ta_hb, ta_hf, Pu.asn, Pu.asn.asns, Pu.wipeS, Pu.frzS, Pu.frz1S, Pu.bfn, Pu.bmT, Pu.dlf, Pu.kOf, bo_add, bo_sub, Pu.cmpo, Pu.truthy, Pu.isTy, Pu.isN, eq_ii, eq_ss, eq_bb, eq_nn, eq_is, eq_si, eq_ni, eq_in, eq_ns, eq_sn, eq_nb, eq_bn, eq_bs, eq_sb, Pu.item, i_0, i_1, i_2, i_3, i_4, Pu.iter, Pu.okIt, Pu.dOf, Pu.dOfs, List.set_cons_zero, List.set_cons_succ, List.getElem?_cons_zero, List.getElem?_cons_succ, List.length_cons, List.length_nil, Option.bind_some, Option.map_some, Option.isSome_some, Option.bind_none, Option.map_none, Option.getD_some, Bool.not_true, Bool.not_false, Va.str.injEq, Va.int.injEq, Va.bl.injEq, Bool.false_eq_true, Bool.true_and, Bool.and_true, Bool.false_and, Bool.and_false, decide_true, decide_false, if_true, if_false, ite_true, ite_false, reduceCtorEq, and_self, true_and, and_true, gls, e, bo_fdiv (b := 512) ⟨by decide, by decide⟩, bo_mod (b := 5) (by decide), bo_mod (b := 2) (by decide), m3, n31, s8', i2, mulS0, bo_str z, app]
          · unfold Tagged
            rw [if_neg (by simpa using m1), app_list, List.getElem?_append_left (by rw [← str_len, n1]; exact hat)]
            exact n4
        · have a1 : ("a" : Str).length = 1 := by decide +kernel
          have z : nm.length + ("a" : Str).length ≤ sizeLine := by
            have := le1000
            omega
          refine ⟨nm ++ "a", .sh (.str (nm ++ "a")), y', ?_, ⟨by rw [app_len]; omega, by rw [app_len]; omega, fun x hx => ?_⟩, ?_⟩
          · simp only [turn_ap, outer, e_v, e_k, e_g, e_tup, e_lst, e_dct0, e_bin, e_neg, e_nt, e_an, e_or, e_cmp, e_cmp2, e_call, e_mk, e_meth, e_bi, e_fld, e_ix, e_sl, e_ife, e_isx, e_dl, x_asg, x_par, x_fld, x_sub, x_retN, x_pass, x_ite, x_rse, x_try, x_tryn, x_frz, r_k, r_tup, r_lst, r_bin, r_neg, r_nt, r_an, r_or, r_cmp, r_cmp2, r_call, r_mk, r_meth, r_bi, r_ix, r_sl, r_ife, r_g, r_fld, r_comp, r_compR, r_dl, r_dct0, x_exC, x_exM, x_bm, x_retV, b_nil, b_cons, l_nil, l_cons, a_one, a_cons, o_one, o_cons, p_none, p_some, c_none, c_some, bi_ok, bi_exc, bl_ok, bl_exc, lb_ok, lb_exc, th_ok, th_exc, lt_ok, lt_exc, se_nx, se_rt, se_exc, en_nx, en_rt, en_exc, op_shr, op_fr, of_t, of_f, cur_shr, cur_fr, cur_ho, cur_hb, cur_hf, curs_nil, curs_cons, Pu.frz1, Pu.Fl.free, sh_nil, sh_shr, putAt_ho, putAt_fr, bmf_clr, bmf_clrD, bmf_rev, nsts_ho, nsts_fr, nsts_shr, nsts_hb, nsts_hf, ta_nil, ta_shr, ta_ho, ta_hb, ta_hf, Pu.asn, Pu.asn.asns, Pu.wipeS, Pu.frzS, Pu.frz1S, Pu.bfn, Pu.bmT, Pu.dlf, Pu.kOf, bo_add, bo_sub, Pu.cmpo, Pu.truthy, Pu.isTy, Pu.isN, eq_ii, eq_ss, eq_bb, eq_nn, eq_is, eq_si, eq_ni, eq_in, eq_ns, eq_sn, eq_nb, eq_bn, eq_bs, eq_sb, Pu.item, i_0, i_1, i_2, i_3, i_4, Pu.iter, Pu.okIt, Pu.dOf, Pu.dOfs, List.set_cons_zero, List.set_cons_succ, List.getElem?_cons_zero, List.getElem?_cons_succ, List.length_cons, List.length_nil, Option.bind_some, Option.map_some, Option.isSome_some, Option.bind_none, Option.map_none, Option.getD_some, Bool.not_true, Bool.not_false, Va.str.injEq, Va.int.injEq, Va.bl.injEq, Bool.false_eq_true, Bool.true_and, Bool.and_true, Bool.false_and, Bool.and_false, decide_true, decide_false, if_true, if_false, ite_true, ite_false, reduceCtorEq, and_self, true_and, and_true, gls, e, bo_fdiv (b := 512) ⟨by decide, by decide⟩, bo_mod (b := 5) (by decide), bo_mod (b := 2) (by decide), m3, n31, s8', i2, mulS1, bo_str z, app]
          · rw [app_list] at hx
            rcases List.mem_append.mp hx with hx | hx
            · exact n2 x hx
            · have : ∀ x ∈ ("a" : Str).cps.toList, x ∈ az := by decide +kernel
              exact this x hx
          · unfold Tagged
            rw [if_neg (by simpa using m1), app_list, List.getElem?_append_left (by rw [← str_len, n1]; exact hat)]
            exact n4
      · have s8' : ¬ (size : Int) < 8 := by omega
        refine ⟨nm, .sh (.str nm), y', ?_, gn, ?_⟩
        · simp only [turn_ap, outer, e_v, e_k, e_g, e_tup, e_lst, e_dct0, e_bin, e_neg, e_nt, e_an, e_or, e_cmp, e_cmp2, e_call, e_mk, e_meth, e_bi, e_fld, e_ix, e_sl, e_ife, e_isx, e_dl, x_asg, x_par, x_fld, x_sub, x_retN, x_pass, x_ite, x_rse, x_try, x_tryn, x_frz, r_k, r_tup, r_lst, r_bin, r_neg, r_nt, r_an, r_or, r_cmp, r_cmp2, r_call, r_mk, r_meth, r_bi, r_ix, r_sl, r_ife, r_g, r_fld, r_comp, r_compR, r_dl, r_dct0, x_exC, x_exM, x_bm, x_retV, b_nil, b_cons, l_nil, l_cons, a_one, a_cons, o_one, o_cons, p_none, p_some, c_none, c_some, bi_ok, bi_exc, bl_ok, bl_exc, lb_ok, lb_exc, th_ok, th_exc, lt_ok, lt_exc, se_nx, se_rt, se_exc, en_nx, en_rt, en_exc, op_shr, op_fr, of_t, of_f, cur_shr, cur_fr, cur_ho, cur_hb, cur_hf, curs_nil, curs_cons, Pu.frz1, Pu.Fl.free, sh_nil, sh_shr, putAt_ho, putAt_fr, bmf_clr, bmf_clrD, bmf_rev, nsts_ho, nsts_fr, nsts_shr, nsts_hb, nsts_hf, ta_nil, ta_shr, ta_ho, ta_hb, ta_hf, Pu.asn, Pu.asn.asns, Pu.wipeS, Pu.frzS, Pu.frz1S, Pu.bfn, Pu.bmT, Pu.dlf, Pu.kOf, bo_add, bo_sub, Pu.cmpo, Pu.truthy, Pu.isTy, Pu.isN, eq_ii, eq_ss, eq_bb, eq_nn, eq_is, eq_si, eq_ni, eq_in, eq_ns, eq_sn, eq_nb, eq_bn, eq_bs, eq_sb, Pu.item, i_0, i_1, i_2, i_3, i_4, Pu.iter, Pu.okIt, Pu.dOf, Pu.dOfs, List.set_cons_zero, List.set_cons_succ, List.getElem?_cons_zero, List.getElem?_cons_succ, List.length_cons, List.length_nil, Option.bind_some, Option.map_some, Option.isSome_some, Option.bind_none, Option.map_none, Option.getD_some, Bool.not_true, Bool.not_false, Va.str.injEq, Va.int.injEq, Va.bl.injEq, Bool.false_eq_true, Bool.true_and, Bool.and_true, Bool.false_and, Bool.and_false, decide_true, decide_false, if_true, if_false, ite_true, ite_false, reduceCtorEq, and_self, true_and, and_true, gls, e, bo_fdiv (b := 512) ⟨by decide, by decide⟩, bo_mod (b := 5) (by decide), m3, n31, s8', app]
        · unfold Tagged
          rw [if_neg (by simpa using m1)]
          exact n4
    · refine ⟨nm, .sh (.str nm), y', ?_, gn, ?_⟩
      · simp only [turn_ap, outer, e_v, e_k, e_g, e_tup, e_lst, e_dct0, e_bin, e_neg, e_nt, e_an, e_or, e_cmp, e_cmp2, e_call, e_mk, e_meth, e_bi, e_fld, e_ix, e_sl, e_ife, e_isx, e_dl, x_asg, x_par, x_fld, x_sub, x_retN, x_pass, x_ite, x_rse, x_try, x_tryn, x_frz, r_k, r_tup, r_lst, r_bin, r_neg, r_nt, r_an, r_or, r_cmp, r_cmp2, r_call, r_mk, r_meth, r_bi, r_ix, r_sl, r_ife, r_g, r_fld, r_comp, r_compR, r_dl, r_dct0, x_exC, x_exM, x_bm, x_retV, b_nil, b_cons, l_nil, l_cons, a_one, a_cons, o_one, o_cons, p_none, p_some, c_none, c_some, bi_ok, bi_exc, bl_ok, bl_exc, lb_ok, lb_exc, th_ok, th_exc, lt_ok, lt_exc, se_nx, se_rt, se_exc, en_nx, en_rt, en_exc, op_shr, op_fr, of_t, of_f, cur_shr, cur_fr, cur_ho, cur_hb, cur_hf, curs_nil, curs_cons, Pu.frz1, Pu.Fl.free, sh_nil, sh_shr, putAt_ho, putAt_fr, bmf_clr, bmf_clrD, bmf_rev, nsts_ho, nsts_fr, nsts_shr, nsts_hb, nsts_hf, ta_nil, ta_shr, ta_ho, ta_hb, ta_hf, Pu.asn, Pu.asn.asns, Pu.wipeS, Pu.frzS, Pu.frz1S, Pu.bfn, Pu.bmT, Pu.dlf, Pu.kOf, bo_add, bo_sub, Pu.cmpo, Pu.truthy, Pu.isTy, Pu.isN, eq_ii, eq_ss, eq_bb, eq_nn, eq_is, eq_si, eq_ni, eq_in, eq_ns, eq_sn, eq_nb, eq_bn, eq_bs, eq_sb, Pu.item, i_0, i_1, i_2, i_3, i_4, Pu.iter, Pu.okIt, Pu.dOf, Pu.dOfs, List.set_cons_zero, List.set_cons_succ, List.getElem?_cons_zero, List.getElem?_cons_succ, List.length_cons, List.length_nil, Option.bind_some, Option.map_some, Option.isSome_some, Option.bind_none, Option.map_none, Option.getD_some, Bool.not_true, Bool.not_false, Va.str.injEq, Va.int.injEq, Va.bl.injEq, Bool.false_eq_true, Bool.true_and, Bool.and_true, Bool.false_and, Bool.and_false, decide_true, decide_false, if_true, if_false, ite_true, ite_false, reduceCtorEq, and_self, true_and, and_true, gls, e, bo_fdiv (b := 512) ⟨by decide, by decide⟩, bo_mod (b := 5) (by decide), m1, m3, app]
      · unfold Tagged
        rw [if_neg (by simpa using m1)]
        exact n4
theorem word_ok {k : Nat} {c : Int} {O : Os} (s : Slots) (hs : s.length = 9) (h0 : s[0]? = some (.sh (.int c))) : ∃ W : List Int, evE (cf (k + 1)) (.compR (.bin .mod (.call i__law_mixed [(.bin .fdiv (.v 0) (.k (.int 64))), (.v 6)]) (.k (.int 26))) (.nm 6) [(.k (.int 8))] none [6]) s O = .ok (.lst (W.map .int)) .fr O ∧ W.length = 8 ∧ ∀ w ∈ W, 0 ≤ w ∧ w < 26 := by
  obtain ⟨a, O', e, hO, W, rfl, l, b⟩ := goC_inv (st := fun _ => true) (f := turnC (cf (k + 1)) (.nm 6) none (.bin .mod (.call i__law_mixed [(.bin .fdiv (.v 0) (.k (.int 64))), (.v 6)]) (.k (.int 26))) [6] s) (fun p a O' => O = O' ∧ ∃ W : List Int, a = W.map .int ∧ W.length = p.length ∧ ∀ w ∈ W, 0 ≤ w ∧ w < 26) (l := rangeI 0 8) (O := O)
    ⟨rfl, [], rfl, rfl, fun w hw => absurd hw (by simp)⟩ (fun _ _ _ _ => rfl) fun p x q e a O' ⟨e1, W, e2, l, b⟩ => by
    subst e1 e2
    obtain ⟨rfl, lt⟩ := rangeI_split e
    have z0 : (0 : Int) + (p.length : Int) = (p.length : Int) := by omega
    have g0 : ((s.set 6 .no).set 6 (.sh (.int (p.length : Int))))[0]? = some (.sh (.int c)) := by
      rw [List.getElem?_set_ne (by decide), List.getElem?_set_ne (by decide)]
      exact h0
    have g6 : ((s.set 6 .no).set 6 (.sh (.int (p.length : Int))))[6]? = some (.sh (.int (p.length : Int))) := List.getElem?_set_self (by rw [List.length_set]; omega)
    refine ⟨some (.int ((mix (c.fdiv 64) p.length).fmod 26)), O, ?_, rfl, W ++ [(mix (c.fdiv 64) p.length).fmod 26], by simp, by simp [l], ?_⟩
    · rw [turnC_ap]
      simp only [asn, c_none, z0, Pu.wipeS]
      simp only [e_v, e_k, e_g, e_tup, e_lst, e_dct0, e_bin, e_neg, e_nt, e_an, e_or, e_cmp, e_cmp2, e_call, e_mk, e_meth, e_bi, e_fld, e_ix, e_sl, e_ife, e_isx, e_dl, x_asg, x_par, x_fld, x_sub, x_retN, x_pass, x_ite, x_rse, x_try, x_tryn, x_frz, r_k, r_tup, r_lst, r_bin, r_neg, r_nt, r_an, r_or, r_cmp, r_cmp2, r_call, r_mk, r_meth, r_bi, r_ix, r_sl, r_ife, r_g, r_fld, r_comp, r_compR, r_dl, r_dct0, x_exC, x_exM, x_bm, x_retV, b_nil, b_cons, l_nil, l_cons, a_one, a_cons, o_one, o_cons, p_none, p_some, c_none, c_some, bi_ok, bi_exc, bl_ok, bl_exc, lb_ok, lb_exc, th_ok, th_exc, lt_ok, lt_exc, se_nx, se_rt, se_exc, en_nx, en_rt, en_exc, op_shr, op_fr, of_t, of_f, cur_shr, cur_fr, cur_ho, cur_hb, cur_hf, curs_nil, curs_cons, Pu.frz1, Pu.Fl.free, sh_nil, sh_shr, putAt_ho, putAt_fr, bmf_clr, bmf_clrD, bmf_rev, nsts_ho, nsts_fr, nsts_shr, nsts_hb, nsts_hf, ta_nil, ta_shr, ta_ho, ta_hb, ta_hf, Pu.asn, Pu.asn.asns, Pu.wipeS, Pu.frzS, Pu.frz1S, Pu.bfn, Pu.bmT, Pu.dlf, Pu.kOf, bo_add, bo_sub, Pu.cmpo, Pu.truthy, Pu.isTy, Pu.isN, eq_ii, eq_ss, eq_bb, eq_nn, eq_is, eq_si, eq_ni, eq_in, eq_ns, eq_sn, eq_nb, eq_bn, eq_bs, eq_sb, Pu.item, i_0, i_1, i_2, i_3, i_4, Pu.iter, Pu.okIt, Pu.dOf, Pu.dOfs, List.set_cons_zero, List.set_cons_succ, List.getElem?_cons_zero, List.getElem?_cons_succ, List.length_cons, List.length_nil, Option.bind_some, Option.map_some, Option.isSome_some, Option.bind_none, Option.map_none, Option.getD_some, Bool.not_true, Bool.not_false, Va.str.injEq, Va.int.injEq, Va.bl.injEq, Bool.false_eq_true, Bool.true_and, Bool.and_true, Bool.false_and, Bool.and_false, decide_true, decide_false, if_true, if_false, ite_true, ite_false, reduceCtorEq, and_self, true_and, and_true, g0, g6, bo_fdiv (b := 64) ⟨by decide, by decide⟩, mixed_ok (show p.length < 100 by omega), bo_mod (b := 26) (by decide)]
    · intro w hw
      rcases List.mem_append.mp hw with hw | hw
      · exact b w hw
      · rw [List.mem_singleton.mp hw]
        exact ⟨Int.fmod_nonneg_of_pos _ (by decide), Int.fmod_lt_of_pos _ (by decide)⟩
  subst hO
  rw [rangeI_len] at l
  exact ⟨W, e_compR (vs := [(.int 8, .shr)]) (O1 := O) (by simp only [e_v, e_k, e_g, e_tup, e_lst, e_dct0, e_bin, e_neg, e_nt, e_an, e_or, e_cmp, e_cmp2, e_call, e_mk, e_meth, e_bi, e_fld, e_ix, e_sl, e_ife, e_isx, e_dl, x_asg, x_par, x_fld, x_sub, x_retN, x_pass, x_ite, x_rse, x_try, x_tryn, x_frz, r_k, r_tup, r_lst, r_bin, r_neg, r_nt, r_an, r_or, r_cmp, r_cmp2, r_call, r_mk, r_meth, r_bi, r_ix, r_sl, r_ife, r_g, r_fld, r_comp, r_compR, r_dl, r_dct0, x_exC, x_exM, x_bm, x_retV, b_nil, b_cons, l_nil, l_cons, a_one, a_cons, o_one, o_cons, p_none, p_some, c_none, c_some, bi_ok, bi_exc, bl_ok, bl_exc, lb_ok, lb_exc, th_ok, th_exc, lt_ok, lt_exc, se_nx, se_rt, se_exc, en_nx, en_rt, en_exc, op_shr, op_fr, of_t, of_f, cur_shr, cur_fr, cur_ho, cur_hb, cur_hf, curs_nil, curs_cons, Pu.frz1, Pu.Fl.free, sh_nil, sh_shr, putAt_ho, putAt_fr, bmf_clr, bmf_clrD, bmf_rev, nsts_ho, nsts_fr, nsts_shr, nsts_hb, nsts_hf, ta_nil, ta_shr, ta_ho, ta_hb, ta_hf, Pu.asn, Pu.asn.asns, Pu.wipeS, Pu.frzS, Pu.frz1S, Pu.bfn, Pu.bmT, Pu.dlf, Pu.kOf, bo_add, bo_sub, Pu.cmpo, Pu.truthy, Pu.isTy, Pu.isN, eq_ii, eq_ss, eq_bb, eq_nn, eq_is, eq_si, eq_ni, eq_in, eq_ns, eq_sn, eq_nb, eq_bn, eq_bs, eq_sb, Pu.item, i_0, i_1, i_2, i_3, i_4, Pu.iter, Pu.okIt, Pu.dOf, Pu.dOfs, List.set_cons_zero, List.set_cons_succ, List.getElem?_cons_zero, List.getElem?_cons_succ, List.length_cons, List.length_nil, Option.bind_some, Option.map_some, Option.isSome_some, Option.bind_none, Option.map_none, Option.getD_some, Bool.not_true, Bool.not_false, Va.str.injEq, Va.int.injEq, Va.bl.injEq, Bool.false_eq_true, Bool.true_and, Bool.and_true, Bool.false_and, Bool.and_false, decide_true, decide_false, if_true, if_false, ite_true, ite_false, reduceCtorEq, and_self, true_and, and_true]) (rng_nat (n := 8) (by decide)) (by rw [rangeI_len]; decide) e, l, b⟩
theorem pool_ok {k : Nat} {c : Int} {O : Os} : ∃ L : List Str, Pu.run Q (k + 2) i__law_pool [.sh (.int c)] O = .ok (.lst (L.map .str)) .fr O ∧ Pool L := by
  rw [run_at (d := f__law_pool) rfl rfl]
  have f8a := Int.fmod_nonneg_of_pos c (b := 8) (by decide)
  have f8b := Int.fmod_lt_of_pos c (b := 8) (by decide)
  obtain ⟨size, hz⟩ : ∃ size : Nat, 1 + c.fmod 8 = (size : Int) := ⟨(1 + c.fmod 8).toNat, by omega⟩
  have zp : (0 : Int) < size := by omega
  have fa := Int.fmod_nonneg_of_pos (c.fdiv 8) zp
  have fb := Int.fmod_lt_of_pos (c.fdiv 8) zp
  obtain ⟨at_, ha⟩ : ∃ at_ : Nat, (c.fdiv 8).fmod size = (at_ : Int) := ⟨((c.fdiv 8).fmod size).toNat, by omega⟩
  have z0 : (size : Int) ≠ 0 := by omega
  obtain ⟨W, ew, lW, bW⟩ := word_ok (k := k) (c := c) (O := O) [.sh (.int c), .sh (.str azS), .sh (.int size), .sh (.int at_), .no, .no, .no, .no, .no] rfl rfl
  obtain ⟨s', O', e, hO, L, y6, y7, y8, rfl, lL, gL⟩ := goS_inv (st := fun _ => true) (f := turnS (cf (k + 1)) (.nm 6) outer) (fun p s O' => O = O' ∧ ∃ (L : List Str) (y6 y7 y8 : Sl), s = [.sh (.int c), .sh (.str azS), .sh (.int size), .sh (.int at_), .ow (.lst (W.map .int)), .ow (.lst (L.map .str)), y6, y7, y8] ∧
      L.length = p.length ∧ ∀ i s, L[i]? = some s → Good s ∧ Tagged (decide ((c.fdiv 512).fmod 5 = 1)) at_ (W.getD at_ 0) i s) (l := rangeI 0 7) (s := [.sh (.int c), .sh (.str azS), .sh (.int size), .sh (.int at_), .ow (.lst (W.map .int)), .ow (.lst []), .no, .no, .no]) (O := O)
    ⟨rfl, [], .no, .no, .no, rfl, rfl, fun i s e => by simp at e⟩ (fun _ _ _ _ => rfl) fun p x q e s O' ⟨e1, L, y6, y7, y8, es, lL, gL⟩ => by
    subst e1 es
    obtain ⟨rfl, lt⟩ := rangeI_split e
    obtain ⟨N, y7', y8', e2, gN, tN⟩ := outer_turn (k := k + 1) (c := c) (size := size) (at_ := at_) (i := p.length) (L := L) (O := O) (by omega) (by omega) (by omega) lW bW (by omega) lt y6 y7 y8
    have z : (0 : Int) + (p.length : Int) = (p.length : Int) := by omega
    rw [z]
    refine ⟨_, _, e2, rfl, L ++ [N], .sh (.int p.length), y7', y8', by simp, by simp [lL], fun i s es => ?_⟩
    by_cases hi : i < L.length
    · rw [List.getElem?_append_left hi] at es
      exact gL i s es
    · have : i = L.length := by
        have := (List.getElem?_eq_some_iff.mp es).1
        simp at this
        omega
      subst this
      simp at es
      subst es
      rw [lL]
      exact ⟨gN, tN⟩
  subst hO
  rw [rangeI_len] at lL
  have c6 := x_frR (C := cf (k + 1)) (t := .nm 6) (es := [.k (.int 7)]) (b := outer) (s := [.sh (.int c), .sh (.str azS), .sh (.int size), .sh (.int at_), .ow (.lst (W.map .int)), .ow (.lst []), .no, .no, .no]) (O := O) (O1 := O) (vs := [(.int 7, .shr)]) (by simp only [e_v, e_k, e_g, e_tup, e_lst, e_dct0, e_bin, e_neg, e_nt, e_an, e_or, e_cmp, e_cmp2, e_call, e_mk, e_meth, e_bi, e_fld, e_ix, e_sl, e_ife, e_isx, e_dl, x_asg, x_par, x_fld, x_sub, x_retN, x_pass, x_ite, x_rse, x_try, x_tryn, x_frz, r_k, r_tup, r_lst, r_bin, r_neg, r_nt, r_an, r_or, r_cmp, r_cmp2, r_call, r_mk, r_meth, r_bi, r_ix, r_sl, r_ife, r_g, r_fld, r_comp, r_compR, r_dl, r_dct0, x_exC, x_exM, x_bm, x_retV, b_nil, b_cons, l_nil, l_cons, a_one, a_cons, o_one, o_cons, p_none, p_some, c_none, c_some, bi_ok, bi_exc, bl_ok, bl_exc, lb_ok, lb_exc, th_ok, th_exc, lt_ok, lt_exc, se_nx, se_rt, se_exc, en_nx, en_rt, en_exc, op_shr, op_fr, of_t, of_f, cur_shr, cur_fr, cur_ho, cur_hb, cur_hf, curs_nil, curs_cons, Pu.frz1, Pu.Fl.free, sh_nil, sh_shr, putAt_ho, putAt_fr, bmf_clr, bmf_clrD, bmf_rev, nsts_ho, nsts_fr, nsts_shr, nsts_hb, nsts_hf, ta_nil, ta_shr, ta_ho, ta_hb, ta_hf, Pu.asn, Pu.asn.asns, Pu.wipeS, Pu.frzS, Pu.frz1S, Pu.bfn, Pu.bmT, Pu.dlf, Pu.kOf, bo_add, bo_sub, Pu.cmpo, Pu.truthy, Pu.isTy, Pu.isN, eq_ii, eq_ss, eq_bb, eq_nn, eq_is, eq_si, eq_ni, eq_in, eq_ns, eq_sn, eq_nb, eq_bn, eq_bs, eq_sb, Pu.item, i_0, i_1, i_2, i_3, i_4, Pu.iter, Pu.okIt, Pu.dOf, Pu.dOfs, List.set_cons_zero, List.set_cons_succ, List.getElem?_cons_zero, List.getElem?_cons_succ, List.length_cons, List.length_nil, Option.bind_some, Option.map_some, Option.isSome_some, Option.bind_none, Option.map_none, Option.getD_some, Bool.not_true, Bool.not_false, Va.str.injEq, Va.int.injEq, Va.bl.injEq, Bool.false_eq_true, Bool.true_and, Bool.and_true, Bool.false_and, Bool.and_false, decide_true, decide_false, if_true, if_false, ite_true, ite_false, reduceCtorEq, and_self, true_and, and_true]) (rng_nat (n := 7) (by decide))
  rw [e] at c6
  refine ⟨L, ?_, lL, fun s hs => ?_, ?_⟩
  · unfold outer inner at c6
    simp only [f__law_pool, b_f__law_pool, Pu.begin_, List.map_cons, List.map_nil, List.drop_nil, List.append_nil, List.nil_append, List.replicate, List.cons_append, e_v, e_k, e_g, e_tup, e_lst, e_dct0, e_bin, e_neg, e_nt, e_an, e_or, e_cmp, e_cmp2, e_call, e_mk, e_meth, e_bi, e_fld, e_ix, e_sl, e_ife, e_isx, e_dl, x_asg, x_par, x_fld, x_sub, x_retN, x_pass, x_ite, x_rse, x_try, x_tryn, x_frz, r_k, r_tup, r_lst, r_bin, r_neg, r_nt, r_an, r_or, r_cmp, r_cmp2, r_call, r_mk, r_meth, r_bi, r_ix, r_sl, r_ife, r_g, r_fld, r_comp, r_compR, r_dl, r_dct0, x_exC, x_exM, x_bm, x_retV, b_nil, b_cons, l_nil, l_cons, a_one, a_cons, o_one, o_cons, p_none, p_some, c_none, c_some, bi_ok, bi_exc, bl_ok, bl_exc, lb_ok, lb_exc, th_ok, th_exc, lt_ok, lt_exc, se_nx, se_rt, se_exc, en_nx, en_rt, en_exc, op_shr, op_fr, of_t, of_f, cur_shr, cur_fr, cur_ho, cur_hb, cur_hf, curs_nil, curs_cons, Pu.frz1, Pu.Fl.free, sh_nil, sh_shr, putAt_ho, putAt_fr, bmf_clr, bmf_clrD, bmf_rev, nsts_ho, nsts_fr, nsts_shr, nsts_hb, nsts_hf, ta_nil, ta_shr, ta_ho, ta_hb, ta_hf, Pu.asn, Pu.asn.asns, Pu.wipeS, Pu.frzS, Pu.frz1S, Pu.bfn, Pu.bmT, Pu.dlf, Pu.kOf, bo_add, bo_sub, Pu.cmpo, Pu.truthy, Pu.isTy, Pu.isN, eq_ii, eq_ss, eq_bb, eq_nn, eq_is, eq_si, eq_ni, eq_in, eq_ns, eq_sn, eq_nb, eq_bn, eq_bs, eq_sb, Pu.item, i_0, i_1, i_2, i_3, i_4, Pu.iter, Pu.okIt, Pu.dOf, Pu.dOfs, List.set_cons_zero, List.set_cons_succ, List.getElem?_cons_zero, List.getElem?_cons_succ, List.length_cons, List.length_nil, Option.bind_some, Option.map_some, Option.isSome_some, Option.bind_none, Option.map_none, Option.getD_some, Bool.not_true, Bool.not_false, Va.str.injEq, Va.int.injEq, Va.bl.injEq, Bool.false_eq_true, Bool.true_and, Bool.and_true, Bool.false_and, Bool.and_false, decide_true, decide_false, if_true, if_false, ite_true, ite_false, reduceCtorEq, and_self, true_and, and_true, gls, bo_mod (b := 8) (by decide), bo_fdiv (b := 8) ⟨by decide, by decide⟩, hz, bo_mod z0, ha, ew, c6]
  · obtain ⟨i, hi⟩ := List.getElem?_of_mem hs
    exact (gL i s hi).1
  · refine List.pairwise_iff_getElem.mpr fun i j hi hj hij e2 => ?_
    have ei : L[i]? = some L[i] := List.getElem?_eq_getElem hi
    have ej : L[j]? = some L[i] := by rw [e2]; exact List.getElem?_eq_getElem hj
    have := tag_inj (gL i _ ei).2 (gL j _ ej).2 (by omega) (by omega)
    omega
end K82
set_option Elab.async false
set_option linter.all false
set_option maxRecDepth 100000
set_option maxHeartbeats 4000000
namespace K82
open Pu
open Dl (Va Ex Sm Tg Fn)
open PySem (Str sizeLine PyData)
/-! ### facts that are drawn -/
theorem pick {L : List Str} (m : Int) (p : Pool L) : ∃ (i : Nat) (s : Str), i < 7 ∧ m.fmod 7 = (i : Int) ∧ L[i]? = some s ∧ Good s := by
  have a := Int.fmod_nonneg_of_pos m (b := 7) (by decide)
  have b := Int.fmod_lt_of_pos m (b := 7) (by decide)
  have lt : (m.fmod 7).toNat < L.length := by rw [p.len]; omega
  exact ⟨(m.fmod 7).toNat, L[(m.fmod 7).toNat], by omega, by omega, List.getElem?_eq_getElem lt, p.good _ (List.getElem_mem lt)⟩
theorem two_places {x y : Int} {i j : Nat} (hi : x.fmod 7 = (i : Int)) (hj : (x + 1 + y.fmod 6).fmod 7 = (j : Int)) : i ≠ j := by
  have a := Int.fmod_nonneg_of_pos y (b := 6) (by decide)
  have b := Int.fmod_lt_of_pos y (b := 6) (by decide)
  rw [Int.fmod_eq_emod_of_nonneg _ (by decide)] at hi hj
  omega
theorem ten9 : (10 : Int) ^ (9 : Int).toNat + 1 = 1000000001 := by decide +kernel
theorem fact_ok {k : Nat} {c : Int} {O : Os} {L : List Str} (p : Pool L) : ∃ f : Fact, Pu.run Q (k + 2) i__law_fact [.bo (.lst (L.map .str)), .sh (.int c)] O = .ok f.d .shr O ∧ f.ok := by
  rw [run_at (d := f__law_fact) rfl rfl]
  obtain ⟨i, a, i7, hi, la, ga⟩ := pick (mix c 0) p
  obtain ⟨j, b, j7, hj, lb, gb⟩ := pick (mix c 0 + 1 + (mix c 1).fmod 6) p
  have ij := two_places hi hj
  have ab : a ≠ b := fun z => by
    subst z
    have l1 := (List.getElem?_eq_some_iff.mp la)
    have l2 := (List.getElem?_eq_some_iff.mp lb)
    exact ij ((List.getElem_inj p.nd).mp (l1.2.trans l2.2.symm))
  have l7 : ((L.map D.str).length : Int) = 7 := by rw [List.length_map, p.len]; rfl
  have ea : (L.map D.str)[i]? = some (.str a) := by rw [List.getElem?_map, la]; rfl
  have eb : (L.map D.str)[j]? = some (.str b) := by rw [List.getElem?_map, lb]; rfl
  have s61 : (7 : Int) - 1 = 6 := by decide
  have way0 := Int.fmod_nonneg_of_pos (mix c 2) (b := 6) (by decide)
  have way1 := Int.fmod_lt_of_pos (mix c 2) (b := 6) (by decide)
  generalize hw : (mix c 2).fmod 6 = way at *
  by_cases w2 : way < 2
  · have m3l := mix_lo c 3
    have m0l := mix_lo c 0
    have a0 := Int.fmod_nonneg_of_pos (mix c 1) (b := 151) (by decide)
    have a1 := Int.fmod_lt_of_pos (mix c 1) (b := 151) (by decide)
    have szs : ∃ sz : Int, (sz = 100 ∨ sz = 1000000001) ∧ Dl.atI [D.int 100, .int 1000000001] ((mix c 3).fmod 2) = some (.int sz) := by
      have : (mix c 3).fmod 2 = 0 ∨ (mix c 3).fmod 2 = 1 := by
        rw [Int.fmod_eq_emod_of_nonneg _ (by decide)]
        omega
      rcases this with e | e
      · exact ⟨100, .inl rfl, by rw [e, i_0]⟩
      · exact ⟨1000000001, .inr rfl, by rw [e, i_1]⟩
    obtain ⟨sz, hsz, esz⟩ := szs
    have sp : 0 < sz := by omega
    have q0 := Int.fmod_nonneg_of_pos ((mix c 3).fdiv 2) sp
    have q1 := Int.fmod_lt_of_pos ((mix c 3).fdiv 2) sp
    have r0 := Int.fmod_nonneg_of_pos ((mix c 0).fdiv 7) sp
    have r1 := Int.fmod_lt_of_pos ((mix c 0).fdiv 7) sp
    have sn : sz ≠ 0 := by omega
    refine ⟨.is a ((mix c 1).fmod 151) (((mix c 3).fdiv 2).fmod sz) (((mix c 0).fdiv 7).fmod sz), ?_, ga, ⟨a0, by omega⟩, ⟨q0, by omega⟩, r0, by omega⟩
    simp only [f__law_fact, b_f__law_fact, Pu.begin_, List.map_cons, List.map_nil, List.drop_nil, List.append_nil, List.nil_append, List.replicate, List.cons_append, e_v, e_k, e_g, e_tup, e_lst, e_dct0, e_bin, e_neg, e_nt, e_an, e_or, e_cmp, e_cmp2, e_call, e_mk, e_meth, e_bi, e_fld, e_ix, e_sl, e_ife, e_isx, e_dl, x_asg, x_par, x_fld, x_sub, x_retN, x_pass, x_ite, x_rse, x_try, x_tryn, x_frz, r_k, r_tup, r_lst, r_bin, r_neg, r_nt, r_an, r_or, r_cmp, r_cmp2, r_call, r_mk, r_meth, r_bi, r_ix, r_sl, r_ife, r_g, r_fld, r_comp, r_compR, r_dl, r_dct0, x_exC, x_exM, x_bm, x_retV, b_nil, b_cons, l_nil, l_cons, a_one, a_cons, o_one, o_cons, p_none, p_some, c_none, c_some, bi_ok, bi_exc, bl_ok, bl_exc, lb_ok, lb_exc, th_ok, th_exc, lt_ok, lt_exc, se_nx, se_rt, se_exc, en_nx, en_rt, en_exc, op_shr, op_fr, of_t, of_f, cur_shr, cur_fr, cur_ho, cur_hb, cur_hf, curs_nil, curs_cons, Pu.frz1, Pu.Fl.free, sh_nil, sh_shr, putAt_ho, putAt_fr, bmf_clr, bmf_clrD, bmf_rev, nsts_ho, nsts_fr, nsts_shr, nsts_hb, nsts_hf, ta_nil, ta_shr, ta_ho, ta_hb, ta_hf, Pu.asn, Pu.asn.asns, Pu.wipeS, Pu.frzS, Pu.frz1S, Pu.bfn, Pu.bmT, Pu.dlf, Pu.kOf, bo_add, bo_sub, Pu.cmpo, Pu.truthy, Pu.isTy, Pu.isN, eq_ii, eq_ss, eq_bb, eq_nn, eq_is, eq_si, eq_ni, eq_in, eq_ns, eq_sn, eq_nb, eq_bn, eq_bs, eq_sb, Pu.item, i_0, i_1, i_2, i_3, i_4, Pu.iter, Pu.okIt, Pu.dOf, Pu.dOfs, List.set_cons_zero, List.set_cons_succ, List.getElem?_cons_zero, List.getElem?_cons_succ, List.length_cons, List.length_nil, Option.bind_some, Option.map_some, Option.isSome_some, Option.bind_none, Option.map_none, Option.getD_some, Bool.not_true, Bool.not_false, Va.str.injEq, Va.int.injEq, Va.bl.injEq, Bool.false_eq_true, Bool.true_and, Bool.and_true, Bool.false_and, Bool.and_false, decide_true, decide_false, if_true, if_false, ite_true, ite_false, reduceCtorEq, and_self, true_and, and_true, gls, mixed0, mixed1, mixed2, mixed3, l7, s61, hw, w2, ten9, bo_pow (a := 10) (b := 9) ⟨by decide, by decide, by decide⟩, esz, bo_mod (b := 2) (by decide), bo_mod (b := 6) (by decide), bo_mod (b := 7) (by decide), bo_mod (b := 151) (by decide), bo_fdiv (b := 2) ⟨by decide, by decide⟩, bo_fdiv (b := 7) ⟨by decide, by decide⟩, bo_mod sn, Fact.d, hi, hj, i_nat, ea, eb]
  · by_cases e2 : way = 2
    · refine ⟨.gone a, ?_, ga⟩
      simp only [f__law_fact, b_f__law_fact, Pu.begin_, List.map_cons, List.map_nil, List.drop_nil, List.append_nil, List.nil_append, List.replicate, List.cons_append, e_v, e_k, e_g, e_tup, e_lst, e_dct0, e_bin, e_neg, e_nt, e_an, e_or, e_cmp, e_cmp2, e_call, e_mk, e_meth, e_bi, e_fld, e_ix, e_sl, e_ife, e_isx, e_dl, x_asg, x_par, x_fld, x_sub, x_retN, x_pass, x_ite, x_rse, x_try, x_tryn, x_frz, r_k, r_tup, r_lst, r_bin, r_neg, r_nt, r_an, r_or, r_cmp, r_cmp2, r_call, r_mk, r_meth, r_bi, r_ix, r_sl, r_ife, r_g, r_fld, r_comp, r_compR, r_dl, r_dct0, x_exC, x_exM, x_bm, x_retV, b_nil, b_cons, l_nil, l_cons, a_one, a_cons, o_one, o_cons, p_none, p_some, c_none, c_some, bi_ok, bi_exc, bl_ok, bl_exc, lb_ok, lb_exc, th_ok, th_exc, lt_ok, lt_exc, se_nx, se_rt, se_exc, en_nx, en_rt, en_exc, op_shr, op_fr, of_t, of_f, cur_shr, cur_fr, cur_ho, cur_hb, cur_hf, curs_nil, curs_cons, Pu.frz1, Pu.Fl.free, sh_nil, sh_shr, putAt_ho, putAt_fr, bmf_clr, bmf_clrD, bmf_rev, nsts_ho, nsts_fr, nsts_shr, nsts_hb, nsts_hf, ta_nil, ta_shr, ta_ho, ta_hb, ta_hf, Pu.asn, Pu.asn.asns, Pu.wipeS, Pu.frzS, Pu.frz1S, Pu.bfn, Pu.bmT, Pu.dlf, Pu.kOf, bo_add, bo_sub, Pu.cmpo, Pu.truthy, Pu.isTy, Pu.isN, eq_ii, eq_ss, eq_bb, eq_nn, eq_is, eq_si, eq_ni, eq_in, eq_ns, eq_sn, eq_nb, eq_bn, eq_bs, eq_sb, Pu.item, i_0, i_1, i_2, i_3, i_4, Pu.iter, Pu.okIt, Pu.dOf, Pu.dOfs, List.set_cons_zero, List.set_cons_succ, List.getElem?_cons_zero, List.getElem?_cons_succ, List.length_cons, List.length_nil, Option.bind_some, Option.map_some, Option.isSome_some, Option.bind_none, Option.map_none, Option.getD_some, Bool.not_true, Bool.not_false, Va.str.injEq, Va.int.injEq, Va.bl.injEq, Bool.false_eq_true, Bool.true_and, Bool.and_true, Bool.false_and, Bool.and_false, decide_true, decide_false, if_true, if_false, ite_true, ite_false, reduceCtorEq, and_self, true_and, and_true, gls, mixed0, mixed1, mixed2, mixed3, l7, s61, hw, w2, e2, bo_mod (b := 6) (by decide), bo_mod (b := 7) (by decide), Fact.d, hi, hj, i_nat, ea, eb]
      all_goals simp [e_v, e_k, e_g, e_tup, e_lst, e_dct0, e_bin, e_neg, e_nt, e_an, e_or, e_cmp, e_cmp2, e_call, e_mk, e_meth, e_bi, e_fld, e_ix, e_sl, e_ife, e_isx, e_dl, x_asg, x_par, x_fld, x_sub, x_retN, x_pass, x_ite, x_rse, x_try, x_tryn, x_frz, r_k, r_tup, r_lst, r_bin, r_neg, r_nt, r_an, r_or, r_cmp, r_cmp2, r_call, r_mk, r_meth, r_bi, r_ix, r_sl, r_ife, r_g, r_fld, r_comp, r_compR, r_dl, r_dct0, x_exC, x_exM, x_bm, x_retV, b_nil, b_cons, l_nil, l_cons, a_one, a_cons, o_one, o_cons, p_none, p_some, c_none, c_some, bi_ok, bi_exc, bl_ok, bl_exc, lb_ok, lb_exc, th_ok, th_exc, lt_ok, lt_exc, se_nx, se_rt, se_exc, en_nx, en_rt, en_exc, op_shr, op_fr, of_t, of_f, cur_shr, cur_fr, cur_ho, cur_hb, cur_hf, curs_nil, curs_cons, Pu.frz1, Pu.Fl.free, sh_nil, sh_shr, putAt_ho, putAt_fr, bmf_clr, bmf_clrD, bmf_rev, nsts_ho, nsts_fr, nsts_shr, nsts_hb, nsts_hf, ta_nil, ta_shr, ta_ho, ta_hb, ta_hf, Pu.asn, Pu.asn.asns, Pu.wipeS, Pu.frzS, Pu.frz1S, Pu.bfn, Pu.bmT, Pu.dlf, Pu.kOf, bo_add, bo_sub, Pu.cmpo, Pu.truthy, Pu.isTy, Pu.isN, eq_ii, eq_ss, eq_bb, eq_nn, eq_is, eq_si, eq_ni, eq_in, eq_ns, eq_sn, eq_nb, eq_bn, eq_bs, eq_sb, Pu.item, i_0, i_1, i_2, i_3, i_4, Pu.iter, Pu.okIt, Pu.dOf, Pu.dOfs, List.set_cons_zero, List.set_cons_succ, List.getElem?_cons_zero, List.getElem?_cons_succ, List.length_cons, List.length_nil, Option.bind_some, Option.map_some, Option.isSome_some, Option.bind_none, Option.map_none, Option.getD_some, Bool.not_true, Bool.not_false, Va.str.injEq, Va.int.injEq, Va.bl.injEq, Bool.false_eq_true, Bool.true_and, Bool.and_true, Bool.false_and, Bool.and_false, decide_true, decide_false, if_true, if_false, ite_true, ite_false, reduceCtorEq, and_self, true_and, and_true]
    · by_cases e5 : way = 5
      · refine ⟨.apart a b, ?_, ga, gb, ab⟩
        simp only [f__law_fact, b_f__law_fact, Pu.begin_, List.map_cons, List.map_nil, List.drop_nil, List.append_nil, List.nil_append, List.replicate, List.cons_append, e_v, e_k, e_g, e_tup, e_lst, e_dct0, e_bin, e_neg, e_nt, e_an, e_or, e_cmp, e_cmp2, e_call, e_mk, e_meth, e_bi, e_fld, e_ix, e_sl, e_ife, e_isx, e_dl, x_asg, x_par, x_fld, x_sub, x_retN, x_pass, x_ite, x_rse, x_try, x_tryn, x_frz, r_k, r_tup, r_lst, r_bin, r_neg, r_nt, r_an, r_or, r_cmp, r_cmp2, r_call, r_mk, r_meth, r_bi, r_ix, r_sl, r_ife, r_g, r_fld, r_comp, r_compR, r_dl, r_dct0, x_exC, x_exM, x_bm, x_retV, b_nil, b_cons, l_nil, l_cons, a_one, a_cons, o_one, o_cons, p_none, p_some, c_none, c_some, bi_ok, bi_exc, bl_ok, bl_exc, lb_ok, lb_exc, th_ok, th_exc, lt_ok, lt_exc, se_nx, se_rt, se_exc, en_nx, en_rt, en_exc, op_shr, op_fr, of_t, of_f, cur_shr, cur_fr, cur_ho, cur_hb, cur_hf, curs_nil, curs_cons, Pu.frz1, Pu.Fl.free, sh_nil, sh_shr, putAt_ho, putAt_fr, bmf_clr, bmf_clrD, bmf_rev, nsts_ho, nsts_fr, nsts_shr, nsts_hb, nsts_hf, ta_nil, ta_shr, ta_ho, ta_hb, ta_hf, Pu.asn, Pu.asn.asns, Pu.wipeS, Pu.frzS, Pu.frz1S, Pu.bfn, Pu.bmT, Pu.dlf, Pu.kOf, bo_add, bo_sub, Pu.cmpo, Pu.truthy, Pu.isTy, Pu.isN, eq_ii, eq_ss, eq_bb, eq_nn, eq_is, eq_si, eq_ni, eq_in, eq_ns, eq_sn, eq_nb, eq_bn, eq_bs, eq_sb, Pu.item, i_0, i_1, i_2, i_3, i_4, Pu.iter, Pu.okIt, Pu.dOf, Pu.dOfs, List.set_cons_zero, List.set_cons_succ, List.getElem?_cons_zero, List.getElem?_cons_succ, List.length_cons, List.length_nil, Option.bind_some, Option.map_some, Option.isSome_some, Option.bind_none, Option.map_none, Option.getD_some, Bool.not_true, Bool.not_false, Va.str.injEq, Va.int.injEq, Va.bl.injEq, Bool.false_eq_true, Bool.true_and, Bool.and_true, Bool.false_and, Bool.and_false, decide_true, decide_false, if_true, if_false, ite_true, ite_false, reduceCtorEq, and_self, true_and, and_true, gls, mixed0, mixed1, mixed2, mixed3, l7, s61, hw, w2, e2, e5, bo_mod (b := 6) (by decide), bo_mod (b := 7) (by decide), Fact.d, hi, hj, i_nat, ea, eb]
        all_goals simp [e_v, e_k, e_g, e_tup, e_lst, e_dct0, e_bin, e_neg, e_nt, e_an, e_or, e_cmp, e_cmp2, e_call, e_mk, e_meth, e_bi, e_fld, e_ix, e_sl, e_ife, e_isx, e_dl, x_asg, x_par, x_fld, x_sub, x_retN, x_pass, x_ite, x_rse, x_try, x_tryn, x_frz, r_k, r_tup, r_lst, r_bin, r_neg, r_nt, r_an, r_or, r_cmp, r_cmp2, r_call, r_mk, r_meth, r_bi, r_ix, r_sl, r_ife, r_g, r_fld, r_comp, r_compR, r_dl, r_dct0, x_exC, x_exM, x_bm, x_retV, b_nil, b_cons, l_nil, l_cons, a_one, a_cons, o_one, o_cons, p_none, p_some, c_none, c_some, bi_ok, bi_exc, bl_ok, bl_exc, lb_ok, lb_exc, th_ok, th_exc, lt_ok, lt_exc, se_nx, se_rt, se_exc, en_nx, en_rt, en_exc, op_shr, op_fr, of_t, of_f, cur_shr, cur_fr, cur_ho, cur_hb, cur_hf, curs_nil, curs_cons, Pu.frz1, Pu.Fl.free, sh_nil, sh_shr, putAt_ho, putAt_fr, bmf_clr, bmf_clrD, bmf_rev, nsts_ho, nsts_fr, nsts_shr, nsts_hb, nsts_hf, ta_nil, ta_shr, ta_ho, ta_hb, ta_hf, Pu.asn, Pu.asn.asns, Pu.wipeS, Pu.frzS, Pu.frz1S, Pu.bfn, Pu.bmT, Pu.dlf, Pu.kOf, bo_add, bo_sub, Pu.cmpo, Pu.truthy, Pu.isTy, Pu.isN, eq_ii, eq_ss, eq_bb, eq_nn, eq_is, eq_si, eq_ni, eq_in, eq_ns, eq_sn, eq_nb, eq_bn, eq_bs, eq_sb, Pu.item, i_0, i_1, i_2, i_3, i_4, Pu.iter, Pu.okIt, Pu.dOf, Pu.dOfs, List.set_cons_zero, List.set_cons_succ, List.getElem?_cons_zero, List.getElem?_cons_succ, List.length_cons, List.length_nil, Option.bind_some, Option.map_some, Option.isSome_some, Option.bind_none, Option.map_none, Option.getD_some, Bool.not_true, Bool.not_false, Va.str.injEq, Va.int.injEq, Va.bl.injEq, Bool.false_eq_true, Bool.true_and, Bool.and_true, Bool.false_and, Bool.and_false, decide_true, decide_false, if_true, if_false, ite_true, ite_false, reduceCtorEq, and_self, true_and, and_true]
      · refine ⟨.wth a b, ?_, ga, gb, ab⟩
        simp only [f__law_fact, b_f__law_fact, Pu.begin_, List.map_cons, List.map_nil, List.drop_nil, List.append_nil, List.nil_append, List.replicate, List.cons_append, e_v, e_k, e_g, e_tup, e_lst, e_dct0, e_bin, e_neg, e_nt, e_an, e_or, e_cmp, e_cmp2, e_call, e_mk, e_meth, e_bi, e_fld, e_ix, e_sl, e_ife, e_isx, e_dl, x_asg, x_par, x_fld, x_sub, x_retN, x_pass, x_ite, x_rse, x_try, x_tryn, x_frz, r_k, r_tup, r_lst, r_bin, r_neg, r_nt, r_an, r_or, r_cmp, r_cmp2, r_call, r_mk, r_meth, r_bi, r_ix, r_sl, r_ife, r_g, r_fld, r_comp, r_compR, r_dl, r_dct0, x_exC, x_exM, x_bm, x_retV, b_nil, b_cons, l_nil, l_cons, a_one, a_cons, o_one, o_cons, p_none, p_some, c_none, c_some, bi_ok, bi_exc, bl_ok, bl_exc, lb_ok, lb_exc, th_ok, th_exc, lt_ok, lt_exc, se_nx, se_rt, se_exc, en_nx, en_rt, en_exc, op_shr, op_fr, of_t, of_f, cur_shr, cur_fr, cur_ho, cur_hb, cur_hf, curs_nil, curs_cons, Pu.frz1, Pu.Fl.free, sh_nil, sh_shr, putAt_ho, putAt_fr, bmf_clr, bmf_clrD, bmf_rev, nsts_ho, nsts_fr, nsts_shr, nsts_hb, nsts_hf, ta_nil, ta_shr, ta_ho, ta_hb, ta_hf, Pu.asn, Pu.asn.asns, Pu.wipeS, Pu.frzS, Pu.frz1S, Pu.bfn, Pu.bmT, Pu.dlf, Pu.kOf, bo_add, bo_sub, Pu.cmpo, Pu.truthy, Pu.isTy, Pu.isN, eq_ii, eq_ss, eq_bb, eq_nn, eq_is, eq_si, eq_ni, eq_in, eq_ns, eq_sn, eq_nb, eq_bn, eq_bs, eq_sb, Pu.item, i_0, i_1, i_2, i_3, i_4, Pu.iter, Pu.okIt, Pu.dOf, Pu.dOfs, List.set_cons_zero, List.set_cons_succ, List.getElem?_cons_zero, List.getElem?_cons_succ, List.length_cons, List.length_nil, Option.bind_some, Option.map_some, Option.isSome_some, Option.bind_none, Option.map_none, Option.getD_some, Bool.not_true, Bool.not_false, Va.str.injEq, Va.int.injEq, Va.bl.injEq, Bool.false_eq_true, Bool.true_and, Bool.and_true, Bool.false_and, Bool.and_false, decide_true, decide_false, if_true, if_false, ite_true, ite_false, reduceCtorEq, and_self, true_and, and_true, gls, mixed0, mixed1, mixed2, mixed3, l7, s61, hw, w2, e2, e5, bo_mod (b := 6) (by decide), bo_mod (b := 7) (by decide), Fact.d, hi, hj, i_nat, ea, eb]
end K82
set_option Elab.async false
set_option linter.all false
set_option maxRecDepth 100000
set_option maxHeartbeats 4000000
namespace K82
open Pu
open Dl (Va Ex Sm Tg Fn)
open PySem (Str sizeLine PyData)
/-! ### rows that are drawn -/
theorem fl_ints : ∀ ns : List Int, Dl.allO ((ns.map D.int).map fl?) = some (ns.map Va.int)
  | [] => rfl
  | n :: ns => by
    rw [List.map_cons, List.map_cons]
    unfold Dl.allO
    rw [fl_ints ns]
    rfl
theorem inn_ints {gl : List Va} {x : Int} {ns : List Int} : inn gl (.int x) (.lst (ns.map .int)) = some (decide (x ∈ ns)) := by
  unfold inn
  dsimp only
  rw [fl_ints]
  dsimp only [fl?]
  congr 1
  rw [Bool.eq_iff_iff]
  simp only [List.any_eq_true, List.mem_map, decide_eq_true_eq]
  constructor
  · rintro ⟨_, ⟨a, ha, rfl⟩, z⟩
    unfold Dl.eqF at z
    rw [beq_iff_eq] at z
    exact z ▸ ha
  · intro hx
    exact ⟨_, ⟨x, hx, rfl⟩, by unfold Dl.eqF; simp⟩
/-- the numbers of rows that are held -/
theorem nums_comp {k : Nat} {O : Os} {s : Slots} {R : List Row} (hs : s.length = 11) (h3 : s[3]? = some (.ow (.lst (R.map Row.d)))) (hl : R.length ≤ 100) :
    evE (cf k) (.comp (.ix (.v 10) (.k (.int 0))) (.nm 10) (.v 3) none [10]) s O = .ok (.lst ((R.map Row.num).map .int)) .fr O := by
  refine e_comp (d := .lst (R.map Row.d)) (fd := .ho) (O1 := O) (l := R.map Row.d) (by simp only [e_v, e_k, e_g, e_tup, e_lst, e_dct0, e_bin, e_neg, e_nt, e_an, e_or, e_cmp, e_cmp2, e_call, e_mk, e_meth, e_bi, e_fld, e_ix, e_sl, e_ife, e_isx, e_dl, x_asg, x_par, x_fld, x_sub, x_retN, x_pass, x_ite, x_rse, x_try, x_tryn, x_frz, r_k, r_tup, r_lst, r_bin, r_neg, r_nt, r_an, r_or, r_cmp, r_cmp2, r_call, r_mk, r_meth, r_bi, r_ix, r_sl, r_ife, r_g, r_fld, r_comp, r_compR, r_dl, r_dct0, x_exC, x_exM, x_bm, x_retV, b_nil, b_cons, l_nil, l_cons, a_one, a_cons, o_one, o_cons, p_none, p_some, c_none, c_some, bi_ok, bi_exc, bl_ok, bl_exc, lb_ok, lb_exc, th_ok, th_exc, lt_ok, lt_exc, se_nx, se_rt, se_exc, en_nx, en_rt, en_exc, op_shr, op_fr, of_t, of_f, cur_shr, cur_fr, cur_ho, cur_hb, cur_hf, curs_nil, curs_cons, Pu.frz1, Pu.Fl.free, sh_nil, sh_shr, putAt_ho, putAt_fr, bmf_clr, bmf_clrD, bmf_rev, nsts_ho, nsts_fr, nsts_shr, nsts_hb, nsts_hf, ta_nil, ta_shr, ta_ho, ta_hb, ta_hf, Pu.asn, Pu.asn.asns, Pu.wipeS, Pu.frzS, Pu.frz1S, Pu.bfn, Pu.bmT, Pu.dlf, Pu.kOf, bo_add, bo_sub, Pu.cmpo, Pu.truthy, Pu.isTy, Pu.isN, eq_ii, eq_ss, eq_bb, eq_nn, eq_is, eq_si, eq_ni, eq_in, eq_ns, eq_sn, eq_nb, eq_bn, eq_bs, eq_sb, Pu.item, i_0, i_1, i_2, i_3, i_4, Pu.iter, Pu.okIt, Pu.dOf, Pu.dOfs, List.set_cons_zero, List.set_cons_succ, List.getElem?_cons_zero, List.getElem?_cons_succ, List.length_cons, List.length_nil, Option.bind_some, Option.map_some, Option.isSome_some, Option.bind_none, Option.map_none, Option.getD_some, Bool.not_true, Bool.not_false, Va.str.injEq, Va.int.injEq, Va.bl.injEq, Bool.false_eq_true, Bool.true_and, Bool.and_true, Bool.false_and, Bool.and_false, decide_true, decide_false, if_true, if_false, ite_true, ite_false, reduceCtorEq, and_self, true_and, and_true, h3]) rfl (by have := le1000; rw [List.length_map]; omega) ?_
  have g := goC_map (st := fun _ => true) (f := turnC (cf k) (.nm 10) none (.ix (.v 10) (.k (.int 0))) [10] s) (g := fun v => match v with | .tup (x :: _) => x | v => v) (l := R.map Row.d) (O := O) rfl fun x hx => by
    obtain ⟨r, _, rfl⟩ := List.mem_map.mp hx
    rw [turnC_ap]
    have g10 : ((s.set 10 .no).set 10 (.sh r.d))[10]? = some (.sh r.d) := List.getElem?_set_self (by rw [List.length_set]; omega)
    simp only [e_v, e_k, e_g, e_tup, e_lst, e_dct0, e_bin, e_neg, e_nt, e_an, e_or, e_cmp, e_cmp2, e_call, e_mk, e_meth, e_bi, e_fld, e_ix, e_sl, e_ife, e_isx, e_dl, x_asg, x_par, x_fld, x_sub, x_retN, x_pass, x_ite, x_rse, x_try, x_tryn, x_frz, r_k, r_tup, r_lst, r_bin, r_neg, r_nt, r_an, r_or, r_cmp, r_cmp2, r_call, r_mk, r_meth, r_bi, r_ix, r_sl, r_ife, r_g, r_fld, r_comp, r_compR, r_dl, r_dct0, x_exC, x_exM, x_bm, x_retV, b_nil, b_cons, l_nil, l_cons, a_one, a_cons, o_one, o_cons, p_none, p_some, c_none, c_some, bi_ok, bi_exc, bl_ok, bl_exc, lb_ok, lb_exc, th_ok, th_exc, lt_ok, lt_exc, se_nx, se_rt, se_exc, en_nx, en_rt, en_exc, op_shr, op_fr, of_t, of_f, cur_shr, cur_fr, cur_ho, cur_hb, cur_hf, curs_nil, curs_cons, Pu.frz1, Pu.Fl.free, sh_nil, sh_shr, putAt_ho, putAt_fr, bmf_clr, bmf_clrD, bmf_rev, nsts_ho, nsts_fr, nsts_shr, nsts_hb, nsts_hf, ta_nil, ta_shr, ta_ho, ta_hb, ta_hf, Pu.asn, Pu.asn.asns, Pu.wipeS, Pu.frzS, Pu.frz1S, Pu.bfn, Pu.bmT, Pu.dlf, Pu.kOf, bo_add, bo_sub, Pu.cmpo, Pu.truthy, Pu.isTy, Pu.isN, eq_ii, eq_ss, eq_bb, eq_nn, eq_is, eq_si, eq_ni, eq_in, eq_ns, eq_sn, eq_nb, eq_bn, eq_bs, eq_sb, Pu.item, i_0, i_1, i_2, i_3, i_4, Pu.iter, Pu.okIt, Pu.dOf, Pu.dOfs, List.set_cons_zero, List.set_cons_succ, List.getElem?_cons_zero, List.getElem?_cons_succ, List.length_cons, List.length_nil, Option.bind_some, Option.map_some, Option.isSome_some, Option.bind_none, Option.map_none, Option.getD_some, Bool.not_true, Bool.not_false, Va.str.injEq, Va.int.injEq, Va.bl.injEq, Bool.false_eq_true, Bool.true_and, Bool.and_true, Bool.false_and, Bool.and_false, decide_true, decide_false, if_true, if_false, ite_true, ite_false, reduceCtorEq, and_self, true_and, and_true, c_none, g10]
    unfold Row.d
    simp only [e_v, e_k, e_g, e_tup, e_lst, e_dct0, e_bin, e_neg, e_nt, e_an, e_or, e_cmp, e_cmp2, e_call, e_mk, e_meth, e_bi, e_fld, e_ix, e_sl, e_ife, e_isx, e_dl, x_asg, x_par, x_fld, x_sub, x_retN, x_pass, x_ite, x_rse, x_try, x_tryn, x_frz, r_k, r_tup, r_lst, r_bin, r_neg, r_nt, r_an, r_or, r_cmp, r_cmp2, r_call, r_mk, r_meth, r_bi, r_ix, r_sl, r_ife, r_g, r_fld, r_comp, r_compR, r_dl, r_dct0, x_exC, x_exM, x_bm, x_retV, b_nil, b_cons, l_nil, l_cons, a_one, a_cons, o_one, o_cons, p_none, p_some, c_none, c_some, bi_ok, bi_exc, bl_ok, bl_exc, lb_ok, lb_exc, th_ok, th_exc, lt_ok, lt_exc, se_nx, se_rt, se_exc, en_nx, en_rt, en_exc, op_shr, op_fr, of_t, of_f, cur_shr, cur_fr, cur_ho, cur_hb, cur_hf, curs_nil, curs_cons, Pu.frz1, Pu.Fl.free, sh_nil, sh_shr, putAt_ho, putAt_fr, bmf_clr, bmf_clrD, bmf_rev, nsts_ho, nsts_fr, nsts_shr, nsts_hb, nsts_hf, ta_nil, ta_shr, ta_ho, ta_hb, ta_hf, Pu.asn, Pu.asn.asns, Pu.wipeS, Pu.frzS, Pu.frz1S, Pu.bfn, Pu.bmT, Pu.dlf, Pu.kOf, bo_add, bo_sub, Pu.cmpo, Pu.truthy, Pu.isTy, Pu.isN, eq_ii, eq_ss, eq_bb, eq_nn, eq_is, eq_si, eq_ni, eq_in, eq_ns, eq_sn, eq_nb, eq_bn, eq_bs, eq_sb, Pu.item, i_0, i_1, i_2, i_3, i_4, Pu.iter, Pu.okIt, Pu.dOf, Pu.dOfs, List.set_cons_zero, List.set_cons_succ, List.getElem?_cons_zero, List.getElem?_cons_succ, List.length_cons, List.length_nil, Option.bind_some, Option.map_some, Option.isSome_some, Option.bind_none, Option.map_none, Option.getD_some, Bool.not_true, Bool.not_false, Va.str.injEq, Va.int.injEq, Va.bl.injEq, Bool.false_eq_true, Bool.true_and, Bool.and_true, Bool.false_and, Bool.and_false, decide_true, decide_false, if_true, if_false, ite_true, ite_false, reduceCtorEq, and_self, true_and, and_true]
  have e : ((R.map Row.d).map fun v => match v with | .tup (x :: _) => x | v => v) = (R.map Row.num).map .int := by
    rw [List.map_map, List.map_map]
    rfl
  rw [e] at g
  exact g
def numsNd (R : List Row) : Prop := (R.map Row.num).Nodup
theorem ten9' : (10 : Int) ^ (9 : Int).toNat = 1000000000 := by decide +kernel
theorem ten8' : (10 : Int) ^ (8 : Int).toNat = 100000000 := by decide +kernel
def newsB : List Sm := match b_f__law_news with
  | [_, .frR _ _ b, _] => b
  | _ => []
theorem news_turn {k i : Nat} {C : List Int} {ci sp : Int} {O : Os} {L : List Str} {R : List Row} (p : Pool L) (hi : i < 1000) (e : C[i]? = some ci) (hsp : 0 < sp) (hl : R.length ≤ 100) (nd : numsNd R) (ok : ∀ r ∈ R, r.Ok) (y4 y5 y6 y7 y8 y9 y10 : Sl) :
    ∃ (R' : List Row) (z4 z5 z6 z7 z8 z9 z10 : Sl), turnS (cf (k + 2)) (.nm 4) newsB (.int i) [.sh (.lst (C.map .int)), .bo (.lst (L.map .str)), .sh (.int sp), .ow (.lst (R.map Row.d)), y4, y5, y6, y7, y8, y9, y10] O =
      .nx [.sh (.lst (C.map .int)), .bo (.lst (L.map .str)), .sh (.int sp), .ow (.lst (R'.map Row.d)), z4, z5, z6, z7, z8, z9, z10] O ∧ numsNd R' ∧ (∀ r ∈ R', r.Ok) ∧ R'.length ≤ R.length + 1 := by
  have m : (7919 : Int).natAbs.log2 + (i : Int).natAbs.log2 < 1000000 := mulS (by decide) (by omega)
  have m11 : (11 : Int).natAbs.log2 + (100000000 : Int).natAbs.log2 < 1000000 := mulS (by decide) (by decide)
  have e11 : (11 : Int) * 100000000 = 1100000000 := by decide
  have e2 : (C.map D.int)[i]? = some (.int ci) := by rw [List.getElem?_map, e]; rfl
  obtain ⟨f, ef, fo⟩ := fact_ok (k := k) (c := ci + 7919 * i) (O := O) p
  generalize hc : ci + 7919 * (i : Int) = c at *
  have szs : ∃ sz : Int, 0 < sz ∧ Dl.atI [D.int 100, .int 1100000000] (((mix c 2).fdiv 6).fmod 2) = some (.int sz) := by
    have : ((mix c 2).fdiv 6).fmod 2 = 0 ∨ ((mix c 2).fdiv 6).fmod 2 = 1 := by
      rw [Int.fmod_eq_emod_of_nonneg _ (by decide)]
      omega
    rcases this with e | e
    · exact ⟨100, by decide, by rw [e, i_0]⟩
    · exact ⟨1100000000, by decide, by rw [e, i_1]⟩
  obtain ⟨sz, szp, esz⟩ := szs
  have q0 := Int.fmod_nonneg_of_pos ((mix c 3).fdiv 8) szp
  have sn : sz ≠ 0 := by omega
  have spn : sp ≠ 0 := by omega
  have a1 := Int.fmod_nonneg_of_pos ((mix c 1).fdiv 151) (b := 24) (by decide)
  have b1 := Int.fmod_lt_of_pos ((mix c 1).fdiv 151) (b := 24) (by decide)
  have a2 := Int.fmod_nonneg_of_pos ((mix c 0).fdiv 90) hsp
  have a3 := Int.fmod_nonneg_of_pos ((mix c 2).fdiv 12) (b := 24) (by decide)
  have b3 := Int.fmod_lt_of_pos ((mix c 2).fdiv 12) (b := 24) (by decide)
  generalize hn : (if ((mix c 3).fdiv 8).fmod sz < 1000000000 then ((mix c 3).fdiv 8).fmod sz else 1000000000) = n
  generalize hf : ((mix c 1).fdiv 151).fmod 24 = f1 at *
  generalize hla : (if f1 + ((mix c 0).fdiv 90).fmod sp < 23 then f1 + ((mix c 0).fdiv 90).fmod sp else 23) = la
  generalize hh : ((mix c 2).fdiv 12).fmod 24 = hd at *
  have nok : 0 ≤ n ∧ n ≤ 1000000000 := by rw [← hn]; split <;> omega
  have lok : f1 ≤ la ∧ la ≤ 23 := by rw [← hla]; split <;> omega
  have cm := nums_comp (k := k + 2) (O := O) (s := [.sh (.lst (C.map .int)), .bo (.lst (L.map .str)), .sh (.int sp), .ow (.lst (R.map Row.d)), .sh (.int i), .sh (.int c), .sh (.int n), .sh (.int f1), .sh (.int la), .sh (.int hd), y10]) (R := R) rfl rfl hl
  have ap := bmf_app (l := R.map Row.d) (x := .tup [.int n, .int hd, .int f1, .int la, f.d]) (by have := le1000; rw [List.length_map]; omega)
  by_cases mem : n ∈ R.map Row.num
  · refine ⟨R, .sh (.int i), .sh (.int c), .sh (.int n), .sh (.int f1), .sh (.int la), .sh (.int hd), y10, ?_, nd, ok, Nat.le_succ _⟩
    simp only [turn_ap, newsB, b_f__law_news, e_v, e_k, e_g, e_tup, e_lst, e_dct0, e_bin, e_neg, e_nt, e_an, e_or, e_cmp, e_cmp2, e_call, e_mk, e_meth, e_bi, e_fld, e_ix, e_sl, e_ife, e_isx, e_dl, x_asg, x_par, x_fld, x_sub, x_retN, x_pass, x_ite, x_rse, x_try, x_tryn, x_frz, r_k, r_tup, r_lst, r_bin, r_neg, r_nt, r_an, r_or, r_cmp, r_cmp2, r_call, r_mk, r_meth, r_bi, r_ix, r_sl, r_ife, r_g, r_fld, r_comp, r_compR, r_dl, r_dct0, x_exC, x_exM, x_bm, x_retV, b_nil, b_cons, l_nil, l_cons, a_one, a_cons, o_one, o_cons, p_none, p_some, c_none, c_some, bi_ok, bi_exc, bl_ok, bl_exc, lb_ok, lb_exc, th_ok, th_exc, lt_ok, lt_exc, se_nx, se_rt, se_exc, en_nx, en_rt, en_exc, op_shr, op_fr, of_t, of_f, cur_shr, cur_fr, cur_ho, cur_hb, cur_hf, curs_nil, curs_cons, Pu.frz1, Pu.Fl.free, sh_nil, sh_shr, putAt_ho, putAt_fr, bmf_clr, bmf_clrD, bmf_rev, nsts_ho, nsts_fr, nsts_shr, nsts_hb, nsts_hf, ta_nil, ta_shr, ta_ho, ta_hb, ta_hf, Pu.asn, Pu.asn.asns, Pu.wipeS, Pu.frzS, Pu.frz1S, Pu.bfn, Pu.bmT, Pu.dlf, Pu.kOf, bo_add, bo_sub, Pu.cmpo, Pu.truthy, Pu.isTy, Pu.isN, eq_ii, eq_ss, eq_bb, eq_nn, eq_is, eq_si, eq_ni, eq_in, eq_ns, eq_sn, eq_nb, eq_bn, eq_bs, eq_sb, Pu.item, i_0, i_1, i_2, i_3, i_4, Pu.iter, Pu.okIt, Pu.dOf, Pu.dOfs, List.set_cons_zero, List.set_cons_succ, List.getElem?_cons_zero, List.getElem?_cons_succ, List.length_cons, List.length_nil, Option.bind_some, Option.map_some, Option.isSome_some, Option.bind_none, Option.map_none, Option.getD_some, Bool.not_true, Bool.not_false, Va.str.injEq, Va.int.injEq, Va.bl.injEq, Bool.false_eq_true, Bool.true_and, Bool.and_true, Bool.false_and, Bool.and_false, decide_true, decide_false, if_true, if_false, ite_true, ite_false, reduceCtorEq, and_self, true_and, and_true, mixed0, mixed1, mixed2, mixed3, ten9', ten8', bo_pow (a := 10) (b := 9) ⟨by decide, by decide, by decide⟩, bo_pow (a := 10) (b := 8) ⟨by decide, by decide, by decide⟩, bo_mul m, bo_mul m11, e11, i_nat, e2, hc, esz, bo_mod sn, bo_mod spn, bo_mod (b := 2) (by decide), bo_mod (b := 24) (by decide), bo_fdiv (b := 6) ⟨by decide, by decide⟩, bo_fdiv (b := 8) ⟨by decide, by decide⟩, bo_fdiv (b := 12) ⟨by decide, by decide⟩, bo_fdiv (b := 90) ⟨by decide, by decide⟩, bo_fdiv (b := 151) ⟨by decide, by decide⟩, hn, hf, hla, hh, cm, inn_ints, mem]
  · refine ⟨R ++ [⟨n, hd, f1, la, f⟩], .sh (.int i), .sh (.int c), .sh (.int n), .sh (.int f1), .sh (.int la), .sh (.int hd), y10, ?_, ?_, ?_, by simp⟩
    · simp only [turn_ap, newsB, b_f__law_news, e_v, e_k, e_g, e_tup, e_lst, e_dct0, e_bin, e_neg, e_nt, e_an, e_or, e_cmp, e_cmp2, e_call, e_mk, e_meth, e_bi, e_fld, e_ix, e_sl, e_ife, e_isx, e_dl, x_asg, x_par, x_fld, x_sub, x_retN, x_pass, x_ite, x_rse, x_try, x_tryn, x_frz, r_k, r_tup, r_lst, r_bin, r_neg, r_nt, r_an, r_or, r_cmp, r_cmp2, r_call, r_mk, r_meth, r_bi, r_ix, r_sl, r_ife, r_g, r_fld, r_comp, r_compR, r_dl, r_dct0, x_exC, x_exM, x_bm, x_retV, b_nil, b_cons, l_nil, l_cons, a_one, a_cons, o_one, o_cons, p_none, p_some, c_none, c_some, bi_ok, bi_exc, bl_ok, bl_exc, lb_ok, lb_exc, th_ok, th_exc, lt_ok, lt_exc, se_nx, se_rt, se_exc, en_nx, en_rt, en_exc, op_shr, op_fr, of_t, of_f, cur_shr, cur_fr, cur_ho, cur_hb, cur_hf, curs_nil, curs_cons, Pu.frz1, Pu.Fl.free, sh_nil, sh_shr, putAt_ho, putAt_fr, bmf_clr, bmf_clrD, bmf_rev, nsts_ho, nsts_fr, nsts_shr, nsts_hb, nsts_hf, ta_nil, ta_shr, ta_ho, ta_hb, ta_hf, Pu.asn, Pu.asn.asns, Pu.wipeS, Pu.frzS, Pu.frz1S, Pu.bfn, Pu.bmT, Pu.dlf, Pu.kOf, bo_add, bo_sub, Pu.cmpo, Pu.truthy, Pu.isTy, Pu.isN, eq_ii, eq_ss, eq_bb, eq_nn, eq_is, eq_si, eq_ni, eq_in, eq_ns, eq_sn, eq_nb, eq_bn, eq_bs, eq_sb, Pu.item, i_0, i_1, i_2, i_3, i_4, Pu.iter, Pu.okIt, Pu.dOf, Pu.dOfs, List.set_cons_zero, List.set_cons_succ, List.getElem?_cons_zero, List.getElem?_cons_succ, List.length_cons, List.length_nil, Option.bind_some, Option.map_some, Option.isSome_some, Option.bind_none, Option.map_none, Option.getD_some, Bool.not_true, Bool.not_false, Va.str.injEq, Va.int.injEq, Va.bl.injEq, Bool.false_eq_true, Bool.true_and, Bool.and_true, Bool.false_and, Bool.and_false, decide_true, decide_false, if_true, if_false, ite_true, ite_false, reduceCtorEq, and_self, true_and, and_true, mixed0, mixed1, mixed2, mixed3, ten9', ten8', bo_pow (a := 10) (b := 9) ⟨by decide, by decide, by decide⟩, bo_pow (a := 10) (b := 8) ⟨by decide, by decide, by decide⟩, bo_mul m, bo_mul m11, e11, i_nat, e2, hc, esz, bo_mod sn, bo_mod spn, bo_mod (b := 2) (by decide), bo_mod (b := 24) (by decide), bo_fdiv (b := 6) ⟨by decide, by decide⟩, bo_fdiv (b := 8) ⟨by decide, by decide⟩, bo_fdiv (b := 12) ⟨by decide, by decide⟩, bo_fdiv (b := 90) ⟨by decide, by decide⟩, bo_fdiv (b := 151) ⟨by decide, by decide⟩, hn, hf, hla, hh, cm, inn_ints, mem, ef, ap, List.map_append]
      rfl
    · unfold numsNd
      rw [List.map_append, List.nodup_append]
      exact ⟨nd, by simp, fun a ha b hb z => by
        simp only [List.map_cons, List.map_nil, List.mem_singleton] at hb
        rw [hb] at z
        exact mem (z ▸ ha)⟩
    · intro r hrr
      rcases List.mem_append.mp hrr with hrr | hrr
      · exact ok r hrr
      · rw [List.mem_singleton.mp hrr]
        exact ⟨nok, ⟨a3, by show hd ≤ 23; omega⟩, ⟨a1, by show f1 ≤ 23; omega⟩, ⟨by show 0 ≤ la; omega, lok.2⟩, lok.1, fo⟩
theorem news_rows {k : Nat} {C : List Int} {sp : Int} {O : Os} {L : List Str} (p : Pool L) (hC : C.length ≤ 60) (hsp : 0 < sp) : ∃ R : List Row, Pu.run Q (k + 3) i__law_news [.sh (.lst (C.map .int)), .bo (.lst (L.map .str)), .sh (.int sp)] O = .ok (.lst (R.map Row.d)) .fr O ∧ numsNd R ∧ (∀ r ∈ R, r.Ok) ∧ R.length ≤ C.length := by
  rw [run_at (d := f__law_news) rfl rfl]
  obtain ⟨s', O', e, hO, R, y4, y5, y6, y7, y8, y9, y10, rfl, nd, ok, len⟩ := goS_inv (st := fun _ => true) (f := turnS (cf (k + 2)) (.nm 4) newsB) (fun p s O' => O = O' ∧ ∃ (R : List Row) (y4 y5 y6 y7 y8 y9 y10 : Sl), s = [.sh (.lst (C.map .int)), .bo (.lst (L.map .str)), .sh (.int sp), .ow (.lst (R.map Row.d)), y4, y5, y6, y7, y8, y9, y10] ∧ numsNd R ∧ (∀ r ∈ R, r.Ok) ∧ R.length ≤ p.length) (l := rangeI 0 C.length)
    (s := [.sh (.lst (C.map .int)), .bo (.lst (L.map .str)), .sh (.int sp), .ow (.lst []), .no, .no, .no, .no, .no, .no, .no]) (O := O) ⟨rfl, [], .no, .no, .no, .no, .no, .no, .no, rfl, List.nodup_nil, fun r hr => by simp at hr, Nat.le_refl _⟩ (fun _ _ _ _ => rfl) fun q x q2 e s O' ⟨e1, R, y4, y5, y6, y7, y8, y9, y10, es, nd, ok, len⟩ => by
    subst e1 es
    obtain ⟨rfl, lt⟩ := rangeI_split e
    have z : (0 : Int) + (q.length : Int) = (q.length : Int) := by omega
    obtain ⟨R', z4, z5, z6, z7, z8, z9, z10, t, nd', ok', len'⟩ := news_turn (k := k) (i := q.length) (C := C) (ci := C[q.length]) (sp := sp) (O := O) (R := R) p (by omega) (by simp [lt]) hsp (by omega) nd ok y4 y5 y6 y7 y8 y9 y10
    rw [z]
    exact ⟨_, _, t, rfl, R', z4, z5, z6, z7, z8, z9, z10, rfl, nd', ok', by simp; omega⟩
  subst hO
  rw [rangeI_len] at len
  have c6 := x_frR (C := cf (k + 2)) (t := .nm 4) (es := [.bi .len [.v 0]]) (b := newsB) (s := [.sh (.lst (C.map .int)), .bo (.lst (L.map .str)), .sh (.int sp), .ow (.lst []), .no, .no, .no, .no, .no, .no, .no]) (O := O) (O1 := O) (vs := [(.int C.length, .shr)]) (by simp only [e_v, e_k, e_g, e_tup, e_lst, e_dct0, e_bin, e_neg, e_nt, e_an, e_or, e_cmp, e_cmp2, e_call, e_mk, e_meth, e_bi, e_fld, e_ix, e_sl, e_ife, e_isx, e_dl, x_asg, x_par, x_fld, x_sub, x_retN, x_pass, x_ite, x_rse, x_try, x_tryn, x_frz, r_k, r_tup, r_lst, r_bin, r_neg, r_nt, r_an, r_or, r_cmp, r_cmp2, r_call, r_mk, r_meth, r_bi, r_ix, r_sl, r_ife, r_g, r_fld, r_comp, r_compR, r_dl, r_dct0, x_exC, x_exM, x_bm, x_retV, b_nil, b_cons, l_nil, l_cons, a_one, a_cons, o_one, o_cons, p_none, p_some, c_none, c_some, bi_ok, bi_exc, bl_ok, bl_exc, lb_ok, lb_exc, th_ok, th_exc, lt_ok, lt_exc, se_nx, se_rt, se_exc, en_nx, en_rt, en_exc, op_shr, op_fr, of_t, of_f, cur_shr, cur_fr, cur_ho, cur_hb, cur_hf, curs_nil, curs_cons, Pu.frz1, Pu.Fl.free, sh_nil, sh_shr, putAt_ho, putAt_fr, bmf_clr, bmf_clrD, bmf_rev, nsts_ho, nsts_fr, nsts_shr, nsts_hb, nsts_hf, ta_nil, ta_shr, ta_ho, ta_hb, ta_hf, Pu.asn, Pu.asn.asns, Pu.wipeS, Pu.frzS, Pu.frz1S, Pu.bfn, Pu.bmT, Pu.dlf, Pu.kOf, bo_add, bo_sub, Pu.cmpo, Pu.truthy, Pu.isTy, Pu.isN, eq_ii, eq_ss, eq_bb, eq_nn, eq_is, eq_si, eq_ni, eq_in, eq_ns, eq_sn, eq_nb, eq_bn, eq_bs, eq_sb, Pu.item, i_0, i_1, i_2, i_3, i_4, Pu.iter, Pu.okIt, Pu.dOf, Pu.dOfs, List.set_cons_zero, List.set_cons_succ, List.getElem?_cons_zero, List.getElem?_cons_succ, List.length_cons, List.length_nil, Option.bind_some, Option.map_some, Option.isSome_some, Option.bind_none, Option.map_none, Option.getD_some, Bool.not_true, Bool.not_false, Va.str.injEq, Va.int.injEq, Va.bl.injEq, Bool.false_eq_true, Bool.true_and, Bool.and_true, Bool.false_and, Bool.and_false, decide_true, decide_false, if_true, if_false, ite_true, ite_false, reduceCtorEq, and_self, true_and, and_true, List.length_map]) (rng_nat (n := C.length) (by omega))
  rw [e] at c6
  unfold newsB b_f__law_news at c6
  refine ⟨R, ?_, nd, ok, len⟩
  simp only [f__law_news, b_f__law_news, Pu.begin_, List.map_cons, List.map_nil, List.drop_nil, List.append_nil, List.nil_append, List.replicate, List.cons_append, e_v, e_k, e_g, e_tup, e_lst, e_dct0, e_bin, e_neg, e_nt, e_an, e_or, e_cmp, e_cmp2, e_call, e_mk, e_meth, e_bi, e_fld, e_ix, e_sl, e_ife, e_isx, e_dl, x_asg, x_par, x_fld, x_sub, x_retN, x_pass, x_ite, x_rse, x_try, x_tryn, x_frz, r_k, r_tup, r_lst, r_bin, r_neg, r_nt, r_an, r_or, r_cmp, r_cmp2, r_call, r_mk, r_meth, r_bi, r_ix, r_sl, r_ife, r_g, r_fld, r_comp, r_compR, r_dl, r_dct0, x_exC, x_exM, x_bm, x_retV, b_nil, b_cons, l_nil, l_cons, a_one, a_cons, o_one, o_cons, p_none, p_some, c_none, c_some, bi_ok, bi_exc, bl_ok, bl_exc, lb_ok, lb_exc, th_ok, th_exc, lt_ok, lt_exc, se_nx, se_rt, se_exc, en_nx, en_rt, en_exc, op_shr, op_fr, of_t, of_f, cur_shr, cur_fr, cur_ho, cur_hb, cur_hf, curs_nil, curs_cons, Pu.frz1, Pu.Fl.free, sh_nil, sh_shr, putAt_ho, putAt_fr, bmf_clr, bmf_clrD, bmf_rev, nsts_ho, nsts_fr, nsts_shr, nsts_hb, nsts_hf, ta_nil, ta_shr, ta_ho, ta_hb, ta_hf, Pu.asn, Pu.asn.asns, Pu.wipeS, Pu.frzS, Pu.frz1S, Pu.bfn, Pu.bmT, Pu.dlf, Pu.kOf, bo_add, bo_sub, Pu.cmpo, Pu.truthy, Pu.isTy, Pu.isN, eq_ii, eq_ss, eq_bb, eq_nn, eq_is, eq_si, eq_ni, eq_in, eq_ns, eq_sn, eq_nb, eq_bn, eq_bs, eq_sb, Pu.item, i_0, i_1, i_2, i_3, i_4, Pu.iter, Pu.okIt, Pu.dOf, Pu.dOfs, List.set_cons_zero, List.set_cons_succ, List.getElem?_cons_zero, List.getElem?_cons_succ, List.length_cons, List.length_nil, Option.bind_some, Option.map_some, Option.isSome_some, Option.bind_none, Option.map_none, Option.getD_some, Bool.not_true, Bool.not_false, Va.str.injEq, Va.int.injEq, Va.bl.injEq, Bool.false_eq_true, Bool.true_and, Bool.and_true, Bool.false_and, Bool.and_false, decide_true, decide_false, if_true, if_false, ite_true, ite_false, reduceCtorEq, and_self, true_and, and_true, c6]
end K82
set_option Elab.async false
set_option linter.all false
set_option maxRecDepth 100000
set_option maxHeartbeats 4000000
namespace K82
open Pu
open Dl (Va Ex Sm Tg Fn sortV leV srtOk)
open PySem (Str sizeLine PyData)
/-! ### sorting -/
theorem dOf_vaOf : ∀ (n : Nat) {d : D} {v : Va}, vaOf n d = some v → dOf v = d
  | n, .non, _, e => by unfold vaOf at e; cases e; rfl
  | n, .bl b, _, e => by unfold vaOf at e; cases e; rfl
  | n, .int b, _, e => by unfold vaOf at e; cases e; rfl
  | n, .str b, _, e => by unfold vaOf at e; cases e; rfl
  | n + 1, .tup ds, _, e => by
    unfold vaOf at e
    cases q : Dl.allO (ds.map (vaOf n)) with
    | none => rw [q] at e; cases e
    | some ws =>
      rw [q] at e
      cases e
      unfold dOf
      have key : ∀ {ds : List D} {ws : List Va}, Dl.allO (ds.map (vaOf n)) = some ws → dOfs ws = ds := fun {ds} => by
        induction ds with
        | nil => intro ws e; rw [allO_nil e]; rfl
        | cons d ds ih =>
          intro ws e
          obtain ⟨y, ys, h1, h2, rfl⟩ := allO_cons e
          unfold dOfs
          rw [dOf_vaOf n h1, ih h2]
      rw [key q]
  | 0, .tup ds, _, e => by unfold vaOf at e; cases e
  | n, .lst ds, _, e => by unfold vaOf at e; cases e
  | n, .rl ds, _, e => by unfold vaOf at e; cases e
  | n, .dct ds, _, e => by unfold vaOf at e; cases e
  | n, .obj ds, _, e => by unfold vaOf at e; cases e
  | n, .box _ _, _, e => by unfold vaOf at e; cases e
  | n, .own _, _, e => by unfold vaOf at e; cases e
  | n, .hx, _, e => by unfold vaOf at e; cases e
theorem dOfs_map {α : Type} {enc : α → D} {encV : α → Va} (h : ∀ a, dOf (encV a) = enc a) : ∀ l : List α, dOfs (l.map encV) = l.map enc
  | [] => rfl
  | a :: l => by
    rw [List.map_cons, List.map_cons]
    unfold dOfs
    rw [h, dOfs_map h l]
theorem allO_map {α β : Type} {f : α → Option β} {g : α → β} : ∀ {l : List α}, (∀ a ∈ l, f a = some (g a)) → Dl.allO (l.map f) = some (l.map g)
  | [], _ => rfl
  | a :: l, h => by
    rw [List.map_cons, h a (by simp)]
    unfold Dl.allO
    rw [allO_map fun b hb => h b (by simp [hb])]
    rfl
theorem srt_map {α : Type} {enc : α → D} {encV : α → Va} {le : α → α → Bool} {l : List α} (h : ∀ a, vaOf 20 (enc a) = some (encV a)) (ok : srtOk [] (l.map encV) = true) (hl : ∀ a ∈ l, ∀ b ∈ l, le a b = leV (encV a) (encV b)) : srt (l.map enc) = some ((l.mergeSort le).map enc) := by
  unfold srt
  rw [List.map_map, allO_map (f := vaOf 20 ∘ enc) (g := encV) (fun a _ => h a)]
  dsimp only
  rw [if_pos ok]
  congr 1
  unfold sortV
  rw [← List.map_mergeSort hl, dOfs_map fun a => dOf_vaOf 20 (h a)]
/-! ### rows by their numbers -/
def Fact.va : Fact → Va
  | .is n a p r => .tup [.str "is", .str n, .int a, .int p, .int r]
  | .gone n => .tup [.str "gone", .str n]
  | .wth a b => .tup [.str "with", .str a, .str b]
  | .apart a b => .tup [.str "apart", .str a, .str b]
def Row.va (r : Row) : Va := .tup [.int r.num, .int r.heard, .int r.first, .int r.last, r.fact.va]
theorem row_va (r : Row) : vaOf 20 r.d = some r.va := by
  obtain ⟨n, h, f, l, fa⟩ := r
  cases fa <;> rfl
def byNum (R : List Row) : List Row := R.mergeSort fun a b => decide (a.num ≤ b.num)
theorem byNum_perm (R : List Row) : (byNum R).Perm R := List.mergeSort_perm _ _
theorem byNum_mem {R : List Row} {r : Row} : r ∈ byNum R ↔ r ∈ R := (byNum_perm R).mem_iff
theorem strOk_lit : PyData.strOk "is" = true ∧ PyData.strOk "gone" = true ∧ PyData.strOk "with" = true ∧ PyData.strOk "apart" = true := by decide +kernel
theorem dat_fact {f : Fact} (g : f.ok) (n : Nat) : (Dl.dat [] (n + 1) f.va).isSome = true := by
  obtain ⟨s1, s2, s3, s4⟩ := strOk_lit
  cases f with
  | is m a p r => simp [Fact.va, Dl.dat, Dl.allO, strOk_of g.1, s1]
  | gone m => simp [Fact.va, Dl.dat, Dl.allO, strOk_of (show Good m from g), s2]
  | wth a b => simp [Fact.va, Dl.dat, Dl.allO, strOk_of g.1, strOk_of g.2.1, s3]
  | apart a b => simp [Fact.va, Dl.dat, Dl.allO, strOk_of g.1, strOk_of g.2.1, s4]
theorem dat_row {r : Row} (g : r.fact.ok) (n : Nat) : (Dl.dat [] (n + 2) r.va).isSome = true := by
  have := dat_fact g n
  cases q : Dl.dat [] (n + 1) r.fact.va with
  | none => rw [q] at this; cases this
  | some p => simp [Row.va, Dl.dat, Dl.allO, q]
theorem alike_fact (f : Fact) : Dl.alikeV f.va f.va = true := by cases f <;> simp [Fact.va, Dl.alikeV, Dl.alikeVs]
theorem alike_row (r : Row) : Dl.alikeV r.va r.va = true := by simp [Row.va, Dl.alikeV, Dl.alikeVs, alike_fact]
theorem nums_inj {R : List Row} (nd : numsNd R) {a b : Row} (ha : a ∈ R) (hb : b ∈ R) (e : a.num = b.num) : a = b := by
  obtain ⟨i, hi, rfl⟩ := List.getElem_of_mem ha
  obtain ⟨j, hj, rfl⟩ := List.getElem_of_mem hb
  have : i = j := (List.getElem_inj (h₀ := by simpa using hi) (h₁ := by simpa using hj) nd).mp (by simpa using e)
  subst this
  rfl
theorem srtOk_rows {R : List Row} (nd : numsNd R) (ok : ∀ r ∈ R, r.Ok) : srtOk [] (R.map Row.va) = true := by
  have h1 : ((R.map Row.va).all fun x => (Dl.dat [] 20 x).isSome) = true := by
    rw [List.all_map, List.all_eq_true]
    intro r hr
    exact dat_row (ok r hr).fact 18
  have h2 : ((R.map Row.va).all fun x => (Dl.fstI x).isSome && Dl.alikeV x x) = true := by
    rw [List.all_map, List.all_eq_true]
    intro r hr
    have e : (Dl.fstI r.va).isSome = true := rfl
    simp [e, alike_row]
  have h3 : ((R.map Row.va).all fun x => (R.map Row.va).all fun y => !decide (Dl.fstI x = Dl.fstI y) || decide (x = y)) = true := by
    rw [List.all_map, List.all_eq_true]
    intro a ha
    show ((R.map Row.va).all fun y => !decide (Dl.fstI a.va = Dl.fstI y) || decide (a.va = y)) = true
    rw [List.all_map, List.all_eq_true]
    intro b hb
    show (!decide (Dl.fstI a.va = Dl.fstI b.va) || decide (a.va = b.va)) = true
    by_cases c : a.num = b.num
    · rw [nums_inj nd ha hb c]; simp
    · have : ¬ Dl.fstI a.va = Dl.fstI b.va := fun z => c (by
        have : some a.num = some b.num := z
        exact Option.some.inj this)
      simp [this]
  unfold srtOk
  rw [h1, h2, h3]
  simp
theorem lts_self : ∀ l : List Va, Dl.lts l l = some false
  | [] => rfl
  | x :: l => by unfold Dl.lts; rw [if_pos rfl]; exact lts_self l
theorem le_rows {R : List Row} (nd : numsNd R) : ∀ a ∈ R, ∀ b ∈ R, decide (a.num ≤ b.num) = leV a.va b.va := by
  intro a ha b hb
  by_cases c : a.num = b.num
  · rw [nums_inj nd ha hb c]
    unfold leV Row.va Dl.ltv
    rw [lts_self]
    simp
  · unfold leV Row.va Dl.ltv Dl.lts
    have : ¬ Va.int b.num = Va.int a.num := fun z => c (Va.int.inj z).symm
    rw [if_neg this]
    unfold Dl.ltv
    rw [Bool.eq_iff_iff]
    simp
    try omega
theorem srt_rows {R : List Row} (nd : numsNd R) (ok : ∀ r ∈ R, r.Ok) : srt (R.map Row.d) = some ((byNum R).map Row.d) := srt_map row_va (srtOk_rows nd ok) (le_rows nd)
theorem srt_ints {l : List Int} : srt (l.map .int) = some ((l.mergeSort fun a b => decide (a ≤ b)).map .int) := by
  refine srt_map (encV := Va.int) (fun _ => rfl) ?_ fun a _ b _ => ?_
  · unfold srtOk
    simp [Dl.dat, Dl.alikeV, Dl.notTup]
  · unfold leV Dl.ltv
    rw [Bool.eq_iff_iff]
    simp
theorem byNum_nums (R : List Row) : (byNum R).map Row.num = (R.map Row.num).mergeSort fun a b => decide (a ≤ b) := List.map_mergeSort fun _ _ _ _ => rfl
/-! ### the book -/
def ent (r : Row) : Ky × D := (.a (.i r.num), r.d)
def bk (R : List Row) : Oj := ⟨C_Book, [(F_known, .dct (R.map ent))]⟩
theorem dget_ent {R : List Row} {r : Row} (nd : numsNd R) (h : r ∈ R) : dget (R.map ent) (.a (.i r.num)) = some r.d := by
  induction R with
  | nil => cases h
  | cons x R ih =>
    unfold dget at ih ⊢
    rw [List.map_cons, List.find?_cons]
    have nd' : numsNd R := (List.nodup_cons.mp nd).2
    by_cases c : x.num = r.num
    · have : x = r := nums_inj nd (by simp) h c
      subst this
      simp [ent]
    · have : ¬ (ent x).1 = Ky.a (.i r.num) := fun z => c (At.i.inj (Ky.a.inj z))
      rw [decide_eq_false this]
      refine ih nd' ?_
      rcases List.mem_cons.mp h with rfl | h
      · exact absurd rfl c
      · exact h
theorem dget_ent_none {R : List Row} {n : Int} (h : n ∉ R.map Row.num) : dget (R.map ent) (.a (.i n)) = none := by
  induction R with
  | nil => rfl
  | cons x R ih =>
    unfold dget at ih ⊢
    rw [List.map_cons, List.find?_cons]
    have : ¬ (ent x).1 = Ky.a (.i n) := fun z => h (by
      have e : x.num = n := At.i.inj (Ky.a.inj z)
      simp [e])
    rw [decide_eq_false this]
    exact ih fun w => h (by simp [w])
theorem kfit_ent {gl : List Va} {R : List Row} {n : Int} : kFit gl (R.map ent) (.a (.i n)) = true := by
  unfold kFit
  have : ((R.map ent).all fun p => p.1.isA) = true := by
    rw [List.all_map, List.all_eq_true]
    intro r _
    rfl
  rw [this]
  rfl
theorem dput_ent {R : List Row} {r : Row} (h : r.num ∉ R.map Row.num) : dput (R.map ent) (.a (.i r.num)) r.d = (R ++ [r]).map ent := by
  unfold dput
  rw [if_neg, List.map_append]
  · rfl
  · intro z
    obtain ⟨p, hp, e⟩ := List.any_eq_true.mp z
    obtain ⟨x, hx, rfl⟩ := List.mem_map.mp hp
    have e : x.num = r.num := At.i.inj (Ky.a.inj (of_decide_eq_true e))
    exact h (e ▸ List.mem_map_of_mem hx)
theorem mut_known : mutf F_known = true := rfl
theorem nst_known : nstf F_known = false := rfl
theorem bk_c {R : List Row} : (bk R).c = C_Book := rfl
theorem fld_bk {O : Os} {b : Nat} {R : List Row} (h : O[b]? = some (bk R)) : fldOf O b F_known = some (.dct (R.map ent)) := by
  unfold fldOf
  rw [h]
  rfl
theorem known_d {R : List Row} : ((R.map ent).map fun p => p.1.d) = (R.map Row.num).map .int := by
  rw [List.map_map, List.map_map]
  rfl
theorem told_ok {k b : Nat} {O : Os} {R : List Row} (h : O[b]? = some (bk R)) (nd : numsNd R) (hl : R.length ≤ 100) : Pu.run Q (k + 1) i_Book_told [.sh (.obj b)] O = .ok (.lst ((byNum R).map Row.d)) .fr O := by
  rw [run_at (d := f_Book_told) rfl rfl]
  have fb := fld_bk h
  have sr : srt ((R.map ent).map fun p => p.1.d) = some (((byNum R).map Row.num).map .int) := by rw [known_d, srt_ints, byNum_nums]
  have e1 : evE (cf k) (.bi .sorted [(.fld (.v 0) F_known)]) [.sh (.obj b), .no] O = .ok (.lst (((byNum R).map Row.num).map .int)) .fr O := by
    simp only [e_v, e_k, e_g, e_tup, e_lst, e_dct0, e_bin, e_neg, e_nt, e_an, e_or, e_cmp, e_cmp2, e_call, e_mk, e_meth, e_bi, e_fld, e_ix, e_sl, e_ife, e_isx, e_dl, x_asg, x_par, x_fld, x_sub, x_retN, x_pass, x_ite, x_rse, x_try, x_tryn, x_frz, r_k, r_tup, r_lst, r_bin, r_neg, r_nt, r_an, r_or, r_cmp, r_cmp2, r_call, r_mk, r_meth, r_bi, r_ix, r_sl, r_ife, r_g, r_fld, r_comp, r_compR, r_dl, r_dct0, x_exC, x_exM, x_bm, x_retV, b_nil, b_cons, l_nil, l_cons, a_one, a_cons, o_one, o_cons, p_none, p_some, c_none, c_some, bi_ok, bi_exc, bl_ok, bl_exc, lb_ok, lb_exc, th_ok, th_exc, lt_ok, lt_exc, se_nx, se_rt, se_exc, en_nx, en_rt, en_exc, op_shr, op_fr, of_t, of_f, cur_shr, cur_fr, cur_ho, cur_hb, cur_hf, curs_nil, curs_cons, Pu.frz1, Pu.Fl.free, sh_nil, sh_shr, putAt_ho, putAt_fr, bmf_clr, bmf_clrD, bmf_rev, nsts_ho, nsts_fr, nsts_shr, nsts_hb, nsts_hf, ta_nil, ta_shr, ta_ho, ta_hb, ta_hf, Pu.asn, Pu.asn.asns, Pu.wipeS, Pu.frzS, Pu.frz1S, Pu.bfn, Pu.bmT, Pu.dlf, Pu.kOf, bo_add, bo_sub, Pu.cmpo, Pu.truthy, Pu.isTy, Pu.isN, eq_ii, eq_ss, eq_bb, eq_nn, eq_is, eq_si, eq_ni, eq_in, eq_ns, eq_sn, eq_nb, eq_bn, eq_bs, eq_sb, Pu.item, i_0, i_1, i_2, i_3, i_4, Pu.iter, Pu.okIt, Pu.dOf, Pu.dOfs, List.set_cons_zero, List.set_cons_succ, List.getElem?_cons_zero, List.getElem?_cons_succ, List.length_cons, List.length_nil, Option.bind_some, Option.map_some, Option.isSome_some, Option.bind_none, Option.map_none, Option.getD_some, Bool.not_true, Bool.not_false, Va.str.injEq, Va.int.injEq, Va.bl.injEq, Bool.false_eq_true, Bool.true_and, Bool.and_true, Bool.false_and, Bool.and_false, decide_true, decide_false, if_true, if_false, ite_true, ite_false, reduceCtorEq, and_self, true_and, and_true, mut_known, fb, sr]
  have g := goC_map (st := fun _ => true) (f := turnC (cf k) (.nm 1) none (.ix (.fld (.v 0) F_known) (.v 1)) [1] [.sh (.obj b), .no]) (g := fun v => match v with | .int n => (dget (R.map ent) (.a (.i n))).getD .non | v => v) (l := ((byNum R).map Row.num).map .int) (O := O) rfl fun x hx => by
    rw [List.map_map] at hx
    obtain ⟨r, hr, rfl⟩ := List.mem_map.mp hx
    have hr := byNum_mem.mp hr
    have e := dget_ent nd hr
    have fit : kFit gls (R.map ent) (.a (.i r.num)) = true := kfit_ent
    rw [turnC_ap]
    simp only [e_v, e_k, e_g, e_tup, e_lst, e_dct0, e_bin, e_neg, e_nt, e_an, e_or, e_cmp, e_cmp2, e_call, e_mk, e_meth, e_bi, e_fld, e_ix, e_sl, e_ife, e_isx, e_dl, x_asg, x_par, x_fld, x_sub, x_retN, x_pass, x_ite, x_rse, x_try, x_tryn, x_frz, r_k, r_tup, r_lst, r_bin, r_neg, r_nt, r_an, r_or, r_cmp, r_cmp2, r_call, r_mk, r_meth, r_bi, r_ix, r_sl, r_ife, r_g, r_fld, r_comp, r_compR, r_dl, r_dct0, x_exC, x_exM, x_bm, x_retV, b_nil, b_cons, l_nil, l_cons, a_one, a_cons, o_one, o_cons, p_none, p_some, c_none, c_some, bi_ok, bi_exc, bl_ok, bl_exc, lb_ok, lb_exc, th_ok, th_exc, lt_ok, lt_exc, se_nx, se_rt, se_exc, en_nx, en_rt, en_exc, op_shr, op_fr, of_t, of_f, cur_shr, cur_fr, cur_ho, cur_hb, cur_hf, curs_nil, curs_cons, Pu.frz1, Pu.Fl.free, sh_nil, sh_shr, putAt_ho, putAt_fr, bmf_clr, bmf_clrD, bmf_rev, nsts_ho, nsts_fr, nsts_shr, nsts_hb, nsts_hf, ta_nil, ta_shr, ta_ho, ta_hb, ta_hf, Pu.asn, Pu.asn.asns, Pu.wipeS, Pu.frzS, Pu.frz1S, Pu.bfn, Pu.bmT, Pu.dlf, Pu.kOf, bo_add, bo_sub, Pu.cmpo, Pu.truthy, Pu.isTy, Pu.isN, eq_ii, eq_ss, eq_bb, eq_nn, eq_is, eq_si, eq_ni, eq_in, eq_ns, eq_sn, eq_nb, eq_bn, eq_bs, eq_sb, Pu.item, i_0, i_1, i_2, i_3, i_4, Pu.iter, Pu.okIt, Pu.dOf, Pu.dOfs, List.set_cons_zero, List.set_cons_succ, List.getElem?_cons_zero, List.getElem?_cons_succ, List.length_cons, List.length_nil, Option.bind_some, Option.map_some, Option.isSome_some, Option.bind_none, Option.map_none, Option.getD_some, Bool.not_true, Bool.not_false, Va.str.injEq, Va.int.injEq, Va.bl.injEq, Bool.false_eq_true, Bool.true_and, Bool.and_true, Bool.false_and, Bool.and_false, decide_true, decide_false, if_true, if_false, ite_true, ite_false, reduceCtorEq, and_self, true_and, and_true, c_none, mut_known, nst_known, fb, keyOf, Function.comp, fit, e, Row.d]
  have e2 : (((byNum R).map Row.num).map D.int).map (fun v => match v with | .int n => (dget (R.map ent) (.a (.i n))).getD .non | v => v) = (byNum R).map Row.d := by
    rw [List.map_map, List.map_map]
    refine List.map_congr_left fun r hr => ?_
    have hr := byNum_mem.mp hr
    show (dget (R.map ent) (.a (.i r.num))).getD .non = r.d
    rw [dget_ent nd hr]
    rfl
  rw [e2] at g
  have ec := e_comp (C := cf k) (t := .nm 1) (it := .bi .sorted [(.fld (.v 0) F_known)]) (cond := none) (own := [1]) (elt := .ix (.fld (.v 0) F_known) (.v 1)) (s := [.sh (.obj b), .no]) (O := O) e1 rfl (by have := le1000; rw [List.length_map, List.length_map, (byNum_perm R).length_eq]; omega) g
  simp only [f_Book_told, b_f_Book_told, Pu.begin_, List.map_cons, List.map_nil, List.drop_nil, List.append_nil, List.nil_append, List.replicate, List.cons_append, e_v, e_k, e_g, e_tup, e_lst, e_dct0, e_bin, e_neg, e_nt, e_an, e_or, e_cmp, e_cmp2, e_call, e_mk, e_meth, e_bi, e_fld, e_ix, e_sl, e_ife, e_isx, e_dl, x_asg, x_par, x_fld, x_sub, x_retN, x_pass, x_ite, x_rse, x_try, x_tryn, x_frz, r_k, r_tup, r_lst, r_bin, r_neg, r_nt, r_an, r_or, r_cmp, r_cmp2, r_call, r_mk, r_meth, r_bi, r_ix, r_sl, r_ife, r_g, r_fld, r_comp, r_compR, r_dl, r_dct0, x_exC, x_exM, x_bm, x_retV, b_nil, b_cons, l_nil, l_cons, a_one, a_cons, o_one, o_cons, p_none, p_some, c_none, c_some, bi_ok, bi_exc, bl_ok, bl_exc, lb_ok, lb_exc, th_ok, th_exc, lt_ok, lt_exc, se_nx, se_rt, se_exc, en_nx, en_rt, en_exc, op_shr, op_fr, of_t, of_f, cur_shr, cur_fr, cur_ho, cur_hb, cur_hf, curs_nil, curs_cons, Pu.frz1, Pu.Fl.free, sh_nil, sh_shr, putAt_ho, putAt_fr, bmf_clr, bmf_clrD, bmf_rev, nsts_ho, nsts_fr, nsts_shr, nsts_hb, nsts_hf, ta_nil, ta_shr, ta_ho, ta_hb, ta_hf, Pu.asn, Pu.asn.asns, Pu.wipeS, Pu.frzS, Pu.frz1S, Pu.bfn, Pu.bmT, Pu.dlf, Pu.kOf, bo_add, bo_sub, Pu.cmpo, Pu.truthy, Pu.isTy, Pu.isN, eq_ii, eq_ss, eq_bb, eq_nn, eq_is, eq_si, eq_ni, eq_in, eq_ns, eq_sn, eq_nb, eq_bn, eq_bs, eq_sb, Pu.item, i_0, i_1, i_2, i_3, i_4, Pu.iter, Pu.okIt, Pu.dOf, Pu.dOfs, List.set_cons_zero, List.set_cons_succ, List.getElem?_cons_zero, List.getElem?_cons_succ, List.length_cons, List.length_nil, Option.bind_some, Option.map_some, Option.isSome_some, Option.bind_none, Option.map_none, Option.getD_some, Bool.not_true, Bool.not_false, Va.str.injEq, Va.int.injEq, Va.bl.injEq, Bool.false_eq_true, Bool.true_and, Bool.and_true, Bool.false_and, Bool.and_false, decide_true, decide_false, if_true, if_false, ite_true, ite_false, reduceCtorEq, and_self, true_and, and_true, ec]
end K82
set_option Elab.async false
set_option linter.all false
set_option maxRecDepth 100000
set_option maxHeartbeats 4000000
namespace K82
open Pu
open Dl (Va Ex Sm Tg Fn sortV leV srtOk)
open PySem (Str sizeLine PyData)
/-! ### what stands -/
def covers (r : Row) (m c : Int) : Bool := decide (r.heard ≤ c) && (decide (r.first ≤ m) && decide (m ≤ r.last))
def put1 (m c : Int) (acc : List (Ky × D)) (r : Row) : List (Ky × D) := if covers r m c = true then dput acc r.fact.about r.fact.d else acc
def stand (R : List Row) (m c : Int) : List (Ky × D) := (byNum R).foldl (put1 m c) []
def lek (a b : Ky) : Bool := leV a.va b.va
def skeys (F : List (Ky × D)) : List Ky := (F.map (·.1)).mergeSort lek
/-- keys that facts are about -/
def Abt (gl : List Va) (y : Ky) : Prop := ∃ f : Fact, f.ok ∧ y = f.about
structure Std (F : List (Ky × D)) : Prop where
  ab : ∀ p ∈ F, ∃ f : Fact, f.ok ∧ p.1 = f.about
  va : ∀ p ∈ F, ∃ f : Fact, f.ok ∧ p.2 = f.d
  nd : (F.map (·.1)).Nodup
theorem mem_dput {l : List (Ky × D)} {y : Ky} {d : D} {p : Ky × D} (h : p ∈ dput l y d) : p ∈ l ∨ p = (y, d) := by
  unfold dput at h
  split at h
  · obtain ⟨q, hq, e⟩ := List.mem_map.mp h
    split at e
    · rename_i c
      subst e
      rw [c]
      exact .inr rfl
    · subst e
      exact .inl hq
  · rcases List.mem_append.mp h with h | h
    · exact .inl h
    · exact .inr (List.mem_singleton.mp h)
theorem keys_dput {l : List (Ky × D)} {y : Ky} {d : D} : (dput l y d).map (·.1) = if y ∈ l.map (·.1) then l.map (·.1) else l.map (·.1) ++ [y] := by
  unfold dput
  have e : ((l.any fun p => decide (p.1 = y)) = true) ↔ y ∈ l.map (·.1) := by
    simp only [List.any_eq_true, decide_eq_true_eq, List.mem_map]
  by_cases c : y ∈ l.map (·.1)
  · rw [if_pos (e.mpr c), if_pos c, List.map_map]
    refine List.map_congr_left fun p _ => ?_
    show (if p.1 = y then (p.1, d) else p).1 = p.1
    split <;> rfl
  · rw [if_neg (fun z => c (e.mp z)), if_neg c, List.map_append]
    rfl
theorem Std.nil : Std [] := ⟨fun _ h => (by cases h), fun _ h => (by cases h), List.nodup_nil⟩
theorem Std.put {F : List (Ky × D)} (s : Std F) {f g : Fact} (hf : f.ok) (hg : g.ok) : Std (dput F f.about g.d) := by
  refine ⟨fun p hp => ?_, fun p hp => ?_, ?_⟩
  · rcases mem_dput hp with h | h
    · exact s.ab p h
    · exact ⟨f, hf, by rw [h]⟩
  · rcases mem_dput hp with h | h
    · exact s.va p h
    · exact ⟨g, hg, by rw [h]⟩
  · rw [keys_dput]
    split
    · exact s.nd
    · rename_i c
      rw [List.nodup_append]
      exact ⟨s.nd, by simp, fun a ha b hb z => c (by rw [List.mem_singleton] at hb; rw [← hb, ← z]; exact ha)⟩
theorem std_fold {m c : Int} : ∀ {L : List Row} {F : List (Ky × D)}, (∀ r ∈ L, r.Ok) → Std F → Std (L.foldl (put1 m c) F)
  | [], _, _, s => s
  | r :: L, F, h, s => by
    rw [List.foldl_cons]
    refine std_fold (fun x hx => h x (by simp [hx])) ?_
    unfold put1
    split
    · exact s.put (h r (by simp)).fact (h r (by simp)).fact
    · exact s
theorem std_stand {R : List Row} {m c : Int} (h : ∀ r ∈ R, r.Ok) : Std (stand R m c) := std_fold (fun r hr => h r (byNum_mem.mp hr)) .nil
theorem abt_isT (f : Fact) : f.about.isT gls = true := by
  cases f <;> simp [Fact.about, Ky.isT, At.va, gls]
theorem abt_notA (f : Fact) : f.about.isA = false := by cases f <;> rfl
theorem std_fit {F : List (Ky × D)} (s : Std F) (f : Fact) : kFit gls F f.about = true := by
  unfold kFit
  rw [abt_isT]
  have : (F.all fun p => p.1.isT gls) = true := by
    rw [List.all_eq_true]
    intro p hp
    obtain ⟨g, _, e⟩ := s.ab p hp
    rw [e]
    exact abt_isT g
  rw [this]
  simp
theorem key_mat (f : Fact) : keyOf f.mat = some f.about := by cases f <;> rfl
theorem ky_va (f : Fact) : vaOf 20 f.about.d = some f.about.va := by cases f <;> rfl
theorem smin_cases (a b : Str) : smin a b = a ∨ smin a b = b := by unfold smin; split <;> simp
theorem smax_cases (a b : Str) : smax a b = a ∨ smax a b = b := by unfold smax; split <;> simp
theorem good_pair {a b : Str} (ha : Good a) (hb : Good b) : Good (smin a b) ∧ Good (smax a b) := by
  rcases smin_cases a b with e | e <;> rcases smax_cases a b with e2 | e2 <;> rw [e, e2] <;> exact ⟨by assumption, by assumption⟩
theorem strOk_lit2 : PyData.strOk "person" = true ∧ PyData.strOk "pair" = true := by decide +kernel
theorem dat_abt {f : Fact} (g : f.ok) (n : Nat) : (Dl.dat [] (n + 1) f.about.va).isSome = true := by
  obtain ⟨s1, s2⟩ := strOk_lit2
  cases f with
  | is m a p r => simp [Fact.about, Ky.va, At.va, Dl.dat, Dl.allO, strOk_of g.1, s1]
  | gone m => simp [Fact.about, Ky.va, At.va, Dl.dat, Dl.allO, strOk_of (show Good m from g), s1]
  | wth a b => simp [Fact.about, Ky.va, At.va, Dl.dat, Dl.allO, strOk_of (good_pair g.1 g.2.1).1, strOk_of (good_pair g.1 g.2.1).2, s2]
  | apart a b => simp [Fact.about, Ky.va, At.va, Dl.dat, Dl.allO, strOk_of (good_pair g.1 g.2.1).1, strOk_of (good_pair g.1 g.2.1).2, s2]
theorem alike_abt (f g : Fact) : Dl.alikeV f.about.va g.about.va = true := by
  cases f <;> cases g <;> simp [Fact.about, Ky.va, At.va, Dl.alikeV, Dl.alikeVs]
theorem tupNe_abt (f : Fact) : Dl.tupNe f.about.va = true := by cases f <;> rfl
theorem srt_abt {F : List (Ky × D)} (s : Std F) : srt (F.map (·.1.d)) = some ((skeys F).map Ky.d) := by
  have ab : ∀ y ∈ F.map (·.1), ∃ f : Fact, f.ok ∧ y = f.about := fun y hy => by
    obtain ⟨p, hp, rfl⟩ := List.mem_map.mp hy
    exact s.ab p hp
  have hm : F.map (·.1.d) = (F.map (·.1)).map Ky.d := by rw [List.map_map]; rfl
  rw [hm]
  unfold srt skeys
  rw [List.map_map, allO_map (f := vaOf 20 ∘ Ky.d) (g := Ky.va) (fun y hy => by
    obtain ⟨f, _, rfl⟩ := ab y hy
    exact ky_va f)]
  dsimp only
  have ok : srtOk [] ((F.map (·.1)).map Ky.va) = true := by
    have h1 : (((F.map (·.1)).map Ky.va).all fun x => (Dl.dat [] 20 x).isSome) = true := by
      rw [List.all_map, List.all_eq_true]
      intro y hy
      obtain ⟨f, g, rfl⟩ := ab y hy
      exact dat_abt g 19
    have h2 : (((F.map (·.1)).map Ky.va).all fun x => ((F.map (·.1)).map Ky.va).all fun y => Dl.alikeV x y) = true := by
      rw [List.all_map, List.all_eq_true]
      intro y hy
      obtain ⟨f, _, rfl⟩ := ab y hy
      show (((F.map (·.1)).map Ky.va).all fun y => Dl.alikeV f.about.va y) = true
      rw [List.all_map, List.all_eq_true]
      intro z hz
      obtain ⟨g, _, rfl⟩ := ab z hz
      exact alike_abt f g
    have h3 : (((F.map (·.1)).map Ky.va).all Dl.tupNe) = true := by
      rw [List.all_map, List.all_eq_true]
      intro y hy
      obtain ⟨f, _, rfl⟩ := ab y hy
      exact tupNe_abt f
    unfold srtOk
    rw [h1, h2, h3]
    simp
  rw [if_pos ok]
  congr 1
  unfold sortV
  rw [← List.map_mergeSort (f := Ky.va) (r := lek) (s := leV) fun _ _ _ _ => rfl]
  have key : ∀ l : List Ky, (∀ y ∈ l, ∃ f : Fact, f.ok ∧ y = f.about) → dOfs (l.map Ky.va) = l.map Ky.d := fun l => by
    induction l with
    | nil => intro _; rfl
    | cons y l ih =>
      intro h
      obtain ⟨f, _, e⟩ := h y (by simp)
      rw [List.map_cons, List.map_cons]
      unfold dOfs
      rw [ih fun z hz => h z (by simp [hz]), e, dOf_vaOf 20 (ky_va f)]
  exact key _ fun y hy => ab y ((List.mergeSort_perm _ _).mem_iff.mp hy)
theorem skeys_perm (F : List (Ky × D)) : (skeys F).Perm (F.map (·.1)) := List.mergeSort_perm _ _
/-- what a key has -/
def at_ (F : List (Ky × D)) (y : Ky) : D := (dget F y).getD .non
theorem dget_some {F : List (Ky × D)} {y : Ky} (h : y ∈ F.map (·.1)) : dget F y = some (at_ F y) := by
  unfold at_
  have : ∃ d, dget F y = some d := by
    induction F with
    | nil => cases h
    | cons p F ih =>
      unfold dget at ih ⊢
      rw [List.find?_cons]
      by_cases c : p.1 = y
      · rw [decide_eq_true c]; exact ⟨_, rfl⟩
      · rw [decide_eq_false c]
        refine ih ?_
        rcases List.mem_cons.mp h with h | h
        · exact absurd h.symm c
        · exact h
  obtain ⟨d, e⟩ := this
  rw [e]
  rfl
theorem dget_mem {F : List (Ky × D)} {y : Ky} {d : D} (h : dget F y = some d) : (y, d) ∈ F := by
  unfold dget at h
  cases q : F.find? fun p => decide (p.1 = y) with
  | none => rw [q] at h; cases h
  | some p =>
    rw [q] at h
    cases h
    have := List.find?_some q
    have e : p.1 = y := of_decide_eq_true this
    subst e
    exact List.mem_of_find?_eq_some q
/-- putting new keys in their order -/
theorem fold_put {F : List (Ky × D)} : ∀ {l : List Ky} {acc : List Ky}, (acc ++ l).Nodup → l.foldl (fun a y => dput a y (at_ F y)) (acc.map fun y => (y, at_ F y)) = (acc ++ l).map fun y => (y, at_ F y)
  | [], acc, _ => by simp
  | y :: l, acc, nd => by
    rw [List.foldl_cons]
    have ny : y ∉ acc := fun h => by
      rw [List.nodup_append] at nd
      exact nd.2.2 y h y (by simp) rfl
    have : dput (acc.map fun y => (y, at_ F y)) y (at_ F y) = (acc ++ [y]).map fun y => (y, at_ F y) := by
      unfold dput
      rw [if_neg, List.map_append]
      · rfl
      · intro z
        obtain ⟨p, hp, e⟩ := List.any_eq_true.mp z
        obtain ⟨x, hx, rfl⟩ := List.mem_map.mp hp
        have e : x = y := of_decide_eq_true e
        exact ny (e ▸ hx)
    rw [this, fold_put (by simpa using nd)]
    simp
def stdD (F : List (Ky × D)) : List (Ky × D) := (skeys F).map fun y => (y, at_ F y)
end K82
set_option Elab.async false
set_option linter.all false
set_option maxRecDepth 100000
set_option maxHeartbeats 4000000
namespace K82
open Pu
open Dl (Va Ex Sm Tg Fn sortV leV srtOk)
open PySem (Str sizeLine PyData)
theorem rows_len {R : List Row} (hl : R.length ≤ 100) : ((byNum R).map Row.d).length ≤ sizeLine := by
  have := le1000
  rw [List.length_map, (byNum_perm R).length_eq]
  omega
theorem std_len {m c : Int} : ∀ {L : List Row} {F : List (Ky × D)}, (L.foldl (put1 m c) F).length ≤ F.length + L.length
  | [], _ => by simp
  | r :: L, F => by
    rw [List.foldl_cons]
    have h := std_len (m := m) (c := c) (L := L) (F := put1 m c F r)
    have : (put1 m c F r).length ≤ F.length + 1 := by
      unfold put1
      split
      · have e := congrArg List.length (keys_dput (l := F) (y := r.fact.about) (d := r.fact.d))
        rw [List.length_map] at e
        rw [e]
        split <;> simp
      · omega
    simp only [List.length_cons]
    omega
theorem stand_len {R : List Row} {m c : Int} (hl : R.length ≤ 100) : (stand R m c).length ≤ 100 := by
  have := std_len (m := m) (c := c) (L := byNum R) (F := [])
  unfold stand
  rw [(byNum_perm R).length_eq] at this
  simp at this
  omega
/-- a fact put where it belongs -/
theorem put_ok {F : List (Ky × D)} {f : Fact} {v : D} (s1 : Std F) (hl : F.length ≤ 100) : subU gls (keyOf f.mat) v (.dct F) = some (.dct (dput F f.about v)) := by
  rw [key_mat]
  exact subU_ok (std_fit s1 f) (by have := le1000; omega)
theorem fact_not_own (f : Fact) : isOwn f.d = false := by cases f <;> rfl
theorem std_va {F : List (Ky × D)} (s : Std F) {y : Ky} (h : y ∈ F.map (·.1)) : ∃ f : Fact, f.ok ∧ at_ F y = f.d := s.va _ (dget_mem (dget_some h))
theorem law_stands_ok {k : Nat} {m c : Int} {O : Os} {R : List Row} (nd : numsNd R) (ok : ∀ r ∈ R, r.Ok) (hl : R.length ≤ 100) : Pu.run Q (k + 2) i__law_stands [.bo (.lst (R.map Row.d)), .sh (.int m), .sh (.int c)] O =
    .ok (.lst ((stdD (stand R m c)).map fun p => .tup [p.1.d, p.2])) .fr O := by
  rw [run_at (d := f__law_stands) rfl rfl]
  have sr := srt_rows nd ok
  obtain ⟨s', O', e, hO, y4, rfl⟩ := goS_T (enc := Row.d) (st := fun _ => true) (f := turnS (cf (k + 1)) (.nm 4) [.ite (.an [(.cmp .le (.ix (.v 4) (.k (.int 1))) (.v 2)), (.cmp .le (.ix (.v 4) (.k (.int 2))) (.v 1)), (.cmp .le (.v 1) (.ix (.v 4) (.k (.int 3))))]) [.sub (.v 3) (.call i__law_matter [(.ix (.v 4) (.k (.int 4)))]) (.ix (.v 4) (.k (.int 4)))] []])
    (fun p s O' => O = O' ∧ ∃ y4, s = [.bo (.lst (R.map Row.d)), .sh (.int m), .sh (.int c), .ow (.dct (p.foldl (put1 m c) [])), y4, .no]) (l := byNum R) (s := [.bo (.lst (R.map Row.d)), .sh (.int m), .sh (.int c), .ow (.dct []), .no, .no]) (O := O) ⟨rfl, .no, rfl⟩ (fun _ _ _ _ => rfl) fun p r q e s O' ⟨e1, y4, es⟩ => by
    subst e1 es
    have hr : r ∈ R := byNum_mem.mp (by rw [e]; simp)
    have lp : p.length ≤ 100 := by
      have := congrArg List.length e
      rw [(byNum_perm R).length_eq] at this
      simp at this
      omega
    have sp : Std (p.foldl (put1 m c) []) := std_fold (fun x hx => ok x (byNum_mem.mp (by rw [e]; simp [hx]))) .nil
    have fl : (p.foldl (put1 m c) []).length ≤ 100 := by
      have := std_len (m := m) (c := c) (L := p) (F := [])
      simp at this
      omega
    have lm := law_matter_ok (k := k) (O := O) (ok r hr).fact
    have po := put_ok (f := r.fact) (v := r.fact.d) sp fl
    refine ⟨_, O, ?_, rfl, .sh r.d, rfl⟩
    rw [List.foldl_append, List.foldl_cons, List.foldl_nil]
    generalize p.foldl (put1 m c) [] = F at *
    have fo := fact_not_own r.fact
    unfold put1 covers
    by_cases c1 : r.heard ≤ c
    · by_cases c2 : r.first ≤ m
      · by_cases c3 : m ≤ r.last
        · simp only [c1, c2, c3, decide_true, Bool.and_self, if_true]
          unfold Row.d
          simp only [turn_ap, e_v, e_k, e_g, e_tup, e_lst, e_dct0, e_bin, e_neg, e_nt, e_an, e_or, e_cmp, e_cmp2, e_call, e_mk, e_meth, e_bi, e_fld, e_ix, e_sl, e_ife, e_isx, e_dl, x_asg, x_par, x_fld, x_sub, x_retN, x_pass, x_ite, x_rse, x_try, x_tryn, x_frz, r_k, r_tup, r_lst, r_bin, r_neg, r_nt, r_an, r_or, r_cmp, r_cmp2, r_call, r_mk, r_meth, r_bi, r_ix, r_sl, r_ife, r_g, r_fld, r_comp, r_compR, r_dl, r_dct0, x_exC, x_exM, x_bm, x_retV, b_nil, b_cons, l_nil, l_cons, a_one, a_cons, o_one, o_cons, p_none, p_some, c_none, c_some, bi_ok, bi_exc, bl_ok, bl_exc, lb_ok, lb_exc, th_ok, th_exc, lt_ok, lt_exc, se_nx, se_rt, se_exc, en_nx, en_rt, en_exc, op_shr, op_fr, of_t, of_f, cur_shr, cur_fr, cur_ho, cur_hb, cur_hf, curs_nil, curs_cons, Pu.frz1, Pu.Fl.free, sh_nil, sh_shr, putAt_ho, putAt_fr, bmf_clr, bmf_clrD, bmf_rev, nsts_ho, nsts_fr, nsts_shr, nsts_hb, nsts_hf, ta_nil, ta_shr, ta_ho, ta_hb, ta_hf, Pu.asn, Pu.asn.asns, Pu.wipeS, Pu.frzS, Pu.frz1S, Pu.bfn, Pu.bmT, Pu.dlf, Pu.kOf, bo_add, bo_sub, Pu.cmpo, Pu.truthy, Pu.isTy, Pu.isN, eq_ii, eq_ss, eq_bb, eq_nn, eq_is, eq_si, eq_ni, eq_in, eq_ns, eq_sn, eq_nb, eq_bn, eq_bs, eq_sb, Pu.item, i_0, i_1, i_2, i_3, i_4, Pu.iter, Pu.okIt, Pu.dOf, Pu.dOfs, List.set_cons_zero, List.set_cons_succ, List.getElem?_cons_zero, List.getElem?_cons_succ, List.length_cons, List.length_nil, Option.bind_some, Option.map_some, Option.isSome_some, Option.bind_none, Option.map_none, Option.getD_some, Bool.not_true, Bool.not_false, Va.str.injEq, Va.int.injEq, Va.bl.injEq, Bool.false_eq_true, Bool.true_and, Bool.and_true, Bool.false_and, Bool.and_false, decide_true, decide_false, if_true, if_false, ite_true, ite_false, reduceCtorEq, and_self, true_and, and_true, c1, c2, c3, lm, fo, po]
        · simp only [c1, c2, c3, decide_true, decide_false, Bool.and_false, Bool.false_eq_true, if_false]
          unfold Row.d
          simp only [turn_ap, e_v, e_k, e_g, e_tup, e_lst, e_dct0, e_bin, e_neg, e_nt, e_an, e_or, e_cmp, e_cmp2, e_call, e_mk, e_meth, e_bi, e_fld, e_ix, e_sl, e_ife, e_isx, e_dl, x_asg, x_par, x_fld, x_sub, x_retN, x_pass, x_ite, x_rse, x_try, x_tryn, x_frz, r_k, r_tup, r_lst, r_bin, r_neg, r_nt, r_an, r_or, r_cmp, r_cmp2, r_call, r_mk, r_meth, r_bi, r_ix, r_sl, r_ife, r_g, r_fld, r_comp, r_compR, r_dl, r_dct0, x_exC, x_exM, x_bm, x_retV, b_nil, b_cons, l_nil, l_cons, a_one, a_cons, o_one, o_cons, p_none, p_some, c_none, c_some, bi_ok, bi_exc, bl_ok, bl_exc, lb_ok, lb_exc, th_ok, th_exc, lt_ok, lt_exc, se_nx, se_rt, se_exc, en_nx, en_rt, en_exc, op_shr, op_fr, of_t, of_f, cur_shr, cur_fr, cur_ho, cur_hb, cur_hf, curs_nil, curs_cons, Pu.frz1, Pu.Fl.free, sh_nil, sh_shr, putAt_ho, putAt_fr, bmf_clr, bmf_clrD, bmf_rev, nsts_ho, nsts_fr, nsts_shr, nsts_hb, nsts_hf, ta_nil, ta_shr, ta_ho, ta_hb, ta_hf, Pu.asn, Pu.asn.asns, Pu.wipeS, Pu.frzS, Pu.frz1S, Pu.bfn, Pu.bmT, Pu.dlf, Pu.kOf, bo_add, bo_sub, Pu.cmpo, Pu.truthy, Pu.isTy, Pu.isN, eq_ii, eq_ss, eq_bb, eq_nn, eq_is, eq_si, eq_ni, eq_in, eq_ns, eq_sn, eq_nb, eq_bn, eq_bs, eq_sb, Pu.item, i_0, i_1, i_2, i_3, i_4, Pu.iter, Pu.okIt, Pu.dOf, Pu.dOfs, List.set_cons_zero, List.set_cons_succ, List.getElem?_cons_zero, List.getElem?_cons_succ, List.length_cons, List.length_nil, Option.bind_some, Option.map_some, Option.isSome_some, Option.bind_none, Option.map_none, Option.getD_some, Bool.not_true, Bool.not_false, Va.str.injEq, Va.int.injEq, Va.bl.injEq, Bool.false_eq_true, Bool.true_and, Bool.and_true, Bool.false_and, Bool.and_false, decide_true, decide_false, if_true, if_false, ite_true, ite_false, reduceCtorEq, and_self, true_and, and_true, c1, c2, c3]
      · simp only [c1, c2, decide_true, decide_false, Bool.false_and, Bool.and_false, Bool.false_eq_true, if_false]
        unfold Row.d
        simp only [turn_ap, e_v, e_k, e_g, e_tup, e_lst, e_dct0, e_bin, e_neg, e_nt, e_an, e_or, e_cmp, e_cmp2, e_call, e_mk, e_meth, e_bi, e_fld, e_ix, e_sl, e_ife, e_isx, e_dl, x_asg, x_par, x_fld, x_sub, x_retN, x_pass, x_ite, x_rse, x_try, x_tryn, x_frz, r_k, r_tup, r_lst, r_bin, r_neg, r_nt, r_an, r_or, r_cmp, r_cmp2, r_call, r_mk, r_meth, r_bi, r_ix, r_sl, r_ife, r_g, r_fld, r_comp, r_compR, r_dl, r_dct0, x_exC, x_exM, x_bm, x_retV, b_nil, b_cons, l_nil, l_cons, a_one, a_cons, o_one, o_cons, p_none, p_some, c_none, c_some, bi_ok, bi_exc, bl_ok, bl_exc, lb_ok, lb_exc, th_ok, th_exc, lt_ok, lt_exc, se_nx, se_rt, se_exc, en_nx, en_rt, en_exc, op_shr, op_fr, of_t, of_f, cur_shr, cur_fr, cur_ho, cur_hb, cur_hf, curs_nil, curs_cons, Pu.frz1, Pu.Fl.free, sh_nil, sh_shr, putAt_ho, putAt_fr, bmf_clr, bmf_clrD, bmf_rev, nsts_ho, nsts_fr, nsts_shr, nsts_hb, nsts_hf, ta_nil, ta_shr, ta_ho, ta_hb, ta_hf, Pu.asn, Pu.asn.asns, Pu.wipeS, Pu.frzS, Pu.frz1S, Pu.bfn, Pu.bmT, Pu.dlf, Pu.kOf, bo_add, bo_sub, Pu.cmpo, Pu.truthy, Pu.isTy, Pu.isN, eq_ii, eq_ss, eq_bb, eq_nn, eq_is, eq_si, eq_ni, eq_in, eq_ns, eq_sn, eq_nb, eq_bn, eq_bs, eq_sb, Pu.item, i_0, i_1, i_2, i_3, i_4, Pu.iter, Pu.okIt, Pu.dOf, Pu.dOfs, List.set_cons_zero, List.set_cons_succ, List.getElem?_cons_zero, List.getElem?_cons_succ, List.length_cons, List.length_nil, Option.bind_some, Option.map_some, Option.isSome_some, Option.bind_none, Option.map_none, Option.getD_some, Bool.not_true, Bool.not_false, Va.str.injEq, Va.int.injEq, Va.bl.injEq, Bool.false_eq_true, Bool.true_and, Bool.and_true, Bool.false_and, Bool.and_false, decide_true, decide_false, if_true, if_false, ite_true, ite_false, reduceCtorEq, and_self, true_and, and_true, c1, c2]
    · simp only [c1, decide_false, Bool.false_and, Bool.false_eq_true, if_false]
      unfold Row.d
      simp only [turn_ap, e_v, e_k, e_g, e_tup, e_lst, e_dct0, e_bin, e_neg, e_nt, e_an, e_or, e_cmp, e_cmp2, e_call, e_mk, e_meth, e_bi, e_fld, e_ix, e_sl, e_ife, e_isx, e_dl, x_asg, x_par, x_fld, x_sub, x_retN, x_pass, x_ite, x_rse, x_try, x_tryn, x_frz, r_k, r_tup, r_lst, r_bin, r_neg, r_nt, r_an, r_or, r_cmp, r_cmp2, r_call, r_mk, r_meth, r_bi, r_ix, r_sl, r_ife, r_g, r_fld, r_comp, r_compR, r_dl, r_dct0, x_exC, x_exM, x_bm, x_retV, b_nil, b_cons, l_nil, l_cons, a_one, a_cons, o_one, o_cons, p_none, p_some, c_none, c_some, bi_ok, bi_exc, bl_ok, bl_exc, lb_ok, lb_exc, th_ok, th_exc, lt_ok, lt_exc, se_nx, se_rt, se_exc, en_nx, en_rt, en_exc, op_shr, op_fr, of_t, of_f, cur_shr, cur_fr, cur_ho, cur_hb, cur_hf, curs_nil, curs_cons, Pu.frz1, Pu.Fl.free, sh_nil, sh_shr, putAt_ho, putAt_fr, bmf_clr, bmf_clrD, bmf_rev, nsts_ho, nsts_fr, nsts_shr, nsts_hb, nsts_hf, ta_nil, ta_shr, ta_ho, ta_hb, ta_hf, Pu.asn, Pu.asn.asns, Pu.wipeS, Pu.frzS, Pu.frz1S, Pu.bfn, Pu.bmT, Pu.dlf, Pu.kOf, bo_add, bo_sub, Pu.cmpo, Pu.truthy, Pu.isTy, Pu.isN, eq_ii, eq_ss, eq_bb, eq_nn, eq_is, eq_si, eq_ni, eq_in, eq_ns, eq_sn, eq_nb, eq_bn, eq_bs, eq_sb, Pu.item, i_0, i_1, i_2, i_3, i_4, Pu.iter, Pu.okIt, Pu.dOf, Pu.dOfs, List.set_cons_zero, List.set_cons_succ, List.getElem?_cons_zero, List.getElem?_cons_succ, List.length_cons, List.length_nil, Option.bind_some, Option.map_some, Option.isSome_some, Option.bind_none, Option.map_none, Option.getD_some, Bool.not_true, Bool.not_false, Va.str.injEq, Va.int.injEq, Va.bl.injEq, Bool.false_eq_true, Bool.true_and, Bool.and_true, Bool.false_and, Bool.and_false, decide_true, decide_false, if_true, if_false, ite_true, ite_false, reduceCtorEq, and_self, true_and, and_true, c1]
  subst hO
  have S := std_stand (R := R) (m := m) (c := c) ok
  have hF : (byNum R).foldl (put1 m c) [] = stand R m c := rfl
  rw [hF] at e
  have ls := stand_len (m := m) (c := c) hl
  generalize stand R m c = F at *
  have c1 := x_fr (C := cf (k + 1)) (t := .nm 4) (it := .bi .sorted [.v 0]) (b := [.ite (.an [(.cmp .le (.ix (.v 4) (.k (.int 1))) (.v 2)), (.cmp .le (.ix (.v 4) (.k (.int 2))) (.v 1)), (.cmp .le (.v 1) (.ix (.v 4) (.k (.int 3))))]) [.sub (.v 3) (.call i__law_matter [(.ix (.v 4) (.k (.int 4)))]) (.ix (.v 4) (.k (.int 4)))] []]) (s := [.bo (.lst (R.map Row.d)), .sh (.int m), .sh (.int c), .ow (.dct []), .no, .no]) (O := O) (O1 := O) (d := .lst ((byNum R).map Row.d)) (fd := .fr) (l := (byNum R).map Row.d) (by simp only [e_v, e_k, e_g, e_tup, e_lst, e_dct0, e_bin, e_neg, e_nt, e_an, e_or, e_cmp, e_cmp2, e_call, e_mk, e_meth, e_bi, e_fld, e_ix, e_sl, e_ife, e_isx, e_dl, x_asg, x_par, x_fld, x_sub, x_retN, x_pass, x_ite, x_rse, x_try, x_tryn, x_frz, r_k, r_tup, r_lst, r_bin, r_neg, r_nt, r_an, r_or, r_cmp, r_cmp2, r_call, r_mk, r_meth, r_bi, r_ix, r_sl, r_ife, r_g, r_fld, r_comp, r_compR, r_dl, r_dct0, x_exC, x_exM, x_bm, x_retV, b_nil, b_cons, l_nil, l_cons, a_one, a_cons, o_one, o_cons, p_none, p_some, c_none, c_some, bi_ok, bi_exc, bl_ok, bl_exc, lb_ok, lb_exc, th_ok, th_exc, lt_ok, lt_exc, se_nx, se_rt, se_exc, en_nx, en_rt, en_exc, op_shr, op_fr, of_t, of_f, cur_shr, cur_fr, cur_ho, cur_hb, cur_hf, curs_nil, curs_cons, Pu.frz1, Pu.Fl.free, sh_nil, sh_shr, putAt_ho, putAt_fr, bmf_clr, bmf_clrD, bmf_rev, nsts_ho, nsts_fr, nsts_shr, nsts_hb, nsts_hf, ta_nil, ta_shr, ta_ho, ta_hb, ta_hf, Pu.asn, Pu.asn.asns, Pu.wipeS, Pu.frzS, Pu.frz1S, Pu.bfn, Pu.bmT, Pu.dlf, Pu.kOf, bo_add, bo_sub, Pu.cmpo, Pu.truthy, Pu.isTy, Pu.isN, eq_ii, eq_ss, eq_bb, eq_nn, eq_is, eq_si, eq_ni, eq_in, eq_ns, eq_sn, eq_nb, eq_bn, eq_bs, eq_sb, Pu.item, i_0, i_1, i_2, i_3, i_4, Pu.iter, Pu.okIt, Pu.dOf, Pu.dOfs, List.set_cons_zero, List.set_cons_succ, List.getElem?_cons_zero, List.getElem?_cons_succ, List.length_cons, List.length_nil, Option.bind_some, Option.map_some, Option.isSome_some, Option.bind_none, Option.map_none, Option.getD_some, Bool.not_true, Bool.not_false, Va.str.injEq, Va.int.injEq, Va.bl.injEq, Bool.false_eq_true, Bool.true_and, Bool.and_true, Bool.false_and, Bool.and_false, decide_true, decide_false, if_true, if_false, ite_true, ite_false, reduceCtorEq, and_self, true_and, and_true, sr]) rfl rfl
  rw [stay_fr, e] at c1
  have sk := srt_abt S
  have g := goC_mapT (enc := Ky.d) (st := fun _ => true) (f := turnC (cf (k + 1)) (.nm 5) none (.tup [(.v 5), (.ix (.v 3) (.v 5))]) [5] [.bo (.lst (R.map Row.d)), .sh (.int m), .sh (.int c), .ow (.dct F), y4, .no]) (g := fun y => .tup [y.d, at_ F y]) (l := skeys F) (O := O) rfl fun y hy => by
    have hm : y ∈ F.map (·.1) := (skeys_perm F).mem_iff.mp hy
    obtain ⟨p, hp, rfl⟩ := List.mem_map.mp hm
    obtain ⟨f, fo, ef⟩ := S.ab p hp
    obtain ⟨g, _, eg⟩ := std_va S hm
    have ek : keyOf f.about.d = some f.about := key_mat f
    have fit := std_fit S f
    have hg := dget_some hm
    rw [ef] at hg eg ⊢
    rw [turnC_ap]
    rw [eg] at hg ⊢
    have ng := fact_not_own g
    cases g <;> simp only [e_v, e_k, e_g, e_tup, e_lst, e_dct0, e_bin, e_neg, e_nt, e_an, e_or, e_cmp, e_cmp2, e_call, e_mk, e_meth, e_bi, e_fld, e_ix, e_sl, e_ife, e_isx, e_dl, x_asg, x_par, x_fld, x_sub, x_retN, x_pass, x_ite, x_rse, x_try, x_tryn, x_frz, r_k, r_tup, r_lst, r_bin, r_neg, r_nt, r_an, r_or, r_cmp, r_cmp2, r_call, r_mk, r_meth, r_bi, r_ix, r_sl, r_ife, r_g, r_fld, r_comp, r_compR, r_dl, r_dct0, x_exC, x_exM, x_bm, x_retV, b_nil, b_cons, l_nil, l_cons, a_one, a_cons, o_one, o_cons, p_none, p_some, c_none, c_some, bi_ok, bi_exc, bl_ok, bl_exc, lb_ok, lb_exc, th_ok, th_exc, lt_ok, lt_exc, se_nx, se_rt, se_exc, en_nx, en_rt, en_exc, op_shr, op_fr, of_t, of_f, cur_shr, cur_fr, cur_ho, cur_hb, cur_hf, curs_nil, curs_cons, Pu.frz1, Pu.Fl.free, sh_nil, sh_shr, putAt_ho, putAt_fr, bmf_clr, bmf_clrD, bmf_rev, nsts_ho, nsts_fr, nsts_shr, nsts_hb, nsts_hf, ta_nil, ta_shr, ta_ho, ta_hb, ta_hf, Pu.asn, Pu.asn.asns, Pu.wipeS, Pu.frzS, Pu.frz1S, Pu.bfn, Pu.bmT, Pu.dlf, Pu.kOf, bo_add, bo_sub, Pu.cmpo, Pu.truthy, Pu.isTy, Pu.isN, eq_ii, eq_ss, eq_bb, eq_nn, eq_is, eq_si, eq_ni, eq_in, eq_ns, eq_sn, eq_nb, eq_bn, eq_bs, eq_sb, Pu.item, i_0, i_1, i_2, i_3, i_4, Pu.iter, Pu.okIt, Pu.dOf, Pu.dOfs, List.set_cons_zero, List.set_cons_succ, List.getElem?_cons_zero, List.getElem?_cons_succ, List.length_cons, List.length_nil, Option.bind_some, Option.map_some, Option.isSome_some, Option.bind_none, Option.map_none, Option.getD_some, Bool.not_true, Bool.not_false, Va.str.injEq, Va.int.injEq, Va.bl.injEq, Bool.false_eq_true, Bool.true_and, Bool.and_true, Bool.false_and, Bool.and_false, decide_true, decide_false, if_true, if_false, ite_true, ite_false, reduceCtorEq, and_self, true_and, and_true, c_none, ek, fit, hg, Fact.d]
  have ec := e_comp (C := cf (k + 1)) (t := .nm 5) (it := .bi .sorted [.v 3]) (cond := none) (own := [5]) (elt := .tup [(.v 5), (.ix (.v 3) (.v 5))]) (s := [.bo (.lst (R.map Row.d)), .sh (.int m), .sh (.int c), .ow (.dct F), y4, .no]) (O := O) (O1 := O) (d := .lst ((skeys F).map Ky.d)) (fd := .fr) (l := (skeys F).map Ky.d) (by simp only [e_v, e_k, e_g, e_tup, e_lst, e_dct0, e_bin, e_neg, e_nt, e_an, e_or, e_cmp, e_cmp2, e_call, e_mk, e_meth, e_bi, e_fld, e_ix, e_sl, e_ife, e_isx, e_dl, x_asg, x_par, x_fld, x_sub, x_retN, x_pass, x_ite, x_rse, x_try, x_tryn, x_frz, r_k, r_tup, r_lst, r_bin, r_neg, r_nt, r_an, r_or, r_cmp, r_cmp2, r_call, r_mk, r_meth, r_bi, r_ix, r_sl, r_ife, r_g, r_fld, r_comp, r_compR, r_dl, r_dct0, x_exC, x_exM, x_bm, x_retV, b_nil, b_cons, l_nil, l_cons, a_one, a_cons, o_one, o_cons, p_none, p_some, c_none, c_some, bi_ok, bi_exc, bl_ok, bl_exc, lb_ok, lb_exc, th_ok, th_exc, lt_ok, lt_exc, se_nx, se_rt, se_exc, en_nx, en_rt, en_exc, op_shr, op_fr, of_t, of_f, cur_shr, cur_fr, cur_ho, cur_hb, cur_hf, curs_nil, curs_cons, Pu.frz1, Pu.Fl.free, sh_nil, sh_shr, putAt_ho, putAt_fr, bmf_clr, bmf_clrD, bmf_rev, nsts_ho, nsts_fr, nsts_shr, nsts_hb, nsts_hf, ta_nil, ta_shr, ta_ho, ta_hb, ta_hf, Pu.asn, Pu.asn.asns, Pu.wipeS, Pu.frzS, Pu.frz1S, Pu.bfn, Pu.bmT, Pu.dlf, Pu.kOf, bo_add, bo_sub, Pu.cmpo, Pu.truthy, Pu.isTy, Pu.isN, eq_ii, eq_ss, eq_bb, eq_nn, eq_is, eq_si, eq_ni, eq_in, eq_ns, eq_sn, eq_nb, eq_bn, eq_bs, eq_sb, Pu.item, i_0, i_1, i_2, i_3, i_4, Pu.iter, Pu.okIt, Pu.dOf, Pu.dOfs, List.set_cons_zero, List.set_cons_succ, List.getElem?_cons_zero, List.getElem?_cons_succ, List.length_cons, List.length_nil, Option.bind_some, Option.map_some, Option.isSome_some, Option.bind_none, Option.map_none, Option.getD_some, Bool.not_true, Bool.not_false, Va.str.injEq, Va.int.injEq, Va.bl.injEq, Bool.false_eq_true, Bool.true_and, Bool.and_true, Bool.false_and, Bool.and_false, decide_true, decide_false, if_true, if_false, ite_true, ite_false, reduceCtorEq, and_self, true_and, and_true, sk]) rfl (by have := le1000; rw [List.length_map, (skeys_perm F).length_eq, List.length_map]; omega) g
  have fin : (skeys F).map (fun y => D.tup [y.d, at_ F y]) = (stdD F).map fun p => .tup [p.1.d, p.2] := by
    unfold stdD
    rw [List.map_map]
    rfl
  rw [fin] at ec
  simp only [f__law_stands, b_f__law_stands, Pu.begin_, List.map_cons, List.map_nil, List.drop_nil, List.append_nil, List.nil_append, List.replicate, List.cons_append, e_v, e_k, e_g, e_tup, e_lst, e_dct0, e_bin, e_neg, e_nt, e_an, e_or, e_cmp, e_cmp2, e_call, e_mk, e_meth, e_bi, e_fld, e_ix, e_sl, e_ife, e_isx, e_dl, x_asg, x_par, x_fld, x_sub, x_retN, x_pass, x_ite, x_rse, x_try, x_tryn, x_frz, r_k, r_tup, r_lst, r_bin, r_neg, r_nt, r_an, r_or, r_cmp, r_cmp2, r_call, r_mk, r_meth, r_bi, r_ix, r_sl, r_ife, r_g, r_fld, r_comp, r_compR, r_dl, r_dct0, x_exC, x_exM, x_bm, x_retV, b_nil, b_cons, l_nil, l_cons, a_one, a_cons, o_one, o_cons, p_none, p_some, c_none, c_some, bi_ok, bi_exc, bl_ok, bl_exc, lb_ok, lb_exc, th_ok, th_exc, lt_ok, lt_exc, se_nx, se_rt, se_exc, en_nx, en_rt, en_exc, op_shr, op_fr, of_t, of_f, cur_shr, cur_fr, cur_ho, cur_hb, cur_hf, curs_nil, curs_cons, Pu.frz1, Pu.Fl.free, sh_nil, sh_shr, putAt_ho, putAt_fr, bmf_clr, bmf_clrD, bmf_rev, nsts_ho, nsts_fr, nsts_shr, nsts_hb, nsts_hf, ta_nil, ta_shr, ta_ho, ta_hb, ta_hf, Pu.asn, Pu.asn.asns, Pu.wipeS, Pu.frzS, Pu.frz1S, Pu.bfn, Pu.bmT, Pu.dlf, Pu.kOf, bo_add, bo_sub, Pu.cmpo, Pu.truthy, Pu.isTy, Pu.isN, eq_ii, eq_ss, eq_bb, eq_nn, eq_is, eq_si, eq_ni, eq_in, eq_ns, eq_sn, eq_nb, eq_bn, eq_bs, eq_sb, Pu.item, i_0, i_1, i_2, i_3, i_4, Pu.iter, Pu.okIt, Pu.dOf, Pu.dOfs, List.set_cons_zero, List.set_cons_succ, List.getElem?_cons_zero, List.getElem?_cons_succ, List.length_cons, List.length_nil, Option.bind_some, Option.map_some, Option.isSome_some, Option.bind_none, Option.map_none, Option.getD_some, Bool.not_true, Bool.not_false, Va.str.injEq, Va.int.injEq, Va.bl.injEq, Bool.false_eq_true, Bool.true_and, Bool.and_true, Bool.false_and, Bool.and_false, decide_true, decide_false, if_true, if_false, ite_true, ite_false, reduceCtorEq, and_self, true_and, and_true, c1, ec]
end K82
set_option Elab.async false
set_option linter.all false
set_option maxRecDepth 100000
set_option maxHeartbeats 4000000
namespace K82
open Pu
open Dl (Va Ex Sm Tg Fn sortV leV srtOk)
open PySem (Str sizeLine PyData)
def standB : List Sm := [.ite (.an [(.cmp .le (.v 5) (.v 2)), (.cmp2 .le .le (.v 6) (.v 1) (.v 7))]) [.sub (.v 3) (.call i_matter [(.v 8)]) (.v 8)] []]
theorem standing_ok {k b : Nat} {m c : Int} {O : Os} {R : List Row} (h : O[b]? = some (bk R)) (nd : numsNd R) (ok : ∀ r ∈ R, r.Ok) (hl : R.length ≤ 100) : Pu.run Q (k + 2) i_Book_standing [.sh (.obj b), .sh (.int m), .sh (.int c)] O =
    .ok (.dct (stdD (stand R m c))) .fr O := by
  rw [run_at (d := f_Book_standing) rfl rfl]
  have td := told_ok (k := k) h nd hl
  obtain ⟨s', O', e, hO, y4, y5, y6, y7, y8, rfl⟩ := goS_T (enc := Row.d) (st := fun _ => true) (f := turnS (cf (k + 1)) (.tup [(.nm 4), (.nm 5), (.nm 6), (.nm 7), (.nm 8)]) standB)
    (fun p s O' => O = O' ∧ ∃ y4 y5 y6 y7 y8, s = [.sh (.obj b), .sh (.int m), .sh (.int c), .ow (.dct (p.foldl (put1 m c) [])), y4, y5, y6, y7, y8, .no, .no]) (l := byNum R) (s := [.sh (.obj b), .sh (.int m), .sh (.int c), .ow (.dct []), .no, .no, .no, .no, .no, .no, .no]) (O := O) ⟨rfl, .no, .no, .no, .no, .no, rfl⟩ (fun _ _ _ _ => rfl) fun p r q e s O' ⟨e1, y4, y5, y6, y7, y8, es⟩ => by
    subst e1 es
    have hr : r ∈ R := byNum_mem.mp (by rw [e]; simp)
    have lp : p.length ≤ 100 := by
      have := congrArg List.length e
      rw [(byNum_perm R).length_eq] at this
      simp at this
      omega
    have sp : Std (p.foldl (put1 m c) []) := std_fold (fun x hx => ok x (byNum_mem.mp (by rw [e]; simp [hx]))) .nil
    have fl : (p.foldl (put1 m c) []).length ≤ 100 := by
      have := std_len (m := m) (c := c) (L := p) (F := [])
      simp at this
      omega
    have lm := matter_ok (k := k) (O := O) (f := r.fact)
    have po := put_ok (f := r.fact) (v := r.fact.d) sp fl
    refine ⟨_, O, ?_, rfl, .sh (.int r.num), .sh (.int r.heard), .sh (.int r.first), .sh (.int r.last), .sh r.fact.d, rfl⟩
    rw [List.foldl_append, List.foldl_cons, List.foldl_nil]
    generalize p.foldl (put1 m c) [] = F at *
    have fo := fact_not_own r.fact
    unfold put1 covers
    by_cases c1 : r.heard ≤ c
    · by_cases c2 : r.first ≤ m
      · by_cases c3 : m ≤ r.last
        · simp only [c1, c2, c3, decide_true, Bool.and_self, if_true]
          unfold Row.d
          simp only [turn_ap, standB, e_v, e_k, e_g, e_tup, e_lst, e_dct0, e_bin, e_neg, e_nt, e_an, e_or, e_cmp, e_cmp2, e_call, e_mk, e_meth, e_bi, e_fld, e_ix, e_sl, e_ife, e_isx, e_dl, x_asg, x_par, x_fld, x_sub, x_retN, x_pass, x_ite, x_rse, x_try, x_tryn, x_frz, r_k, r_tup, r_lst, r_bin, r_neg, r_nt, r_an, r_or, r_cmp, r_cmp2, r_call, r_mk, r_meth, r_bi, r_ix, r_sl, r_ife, r_g, r_fld, r_comp, r_compR, r_dl, r_dct0, x_exC, x_exM, x_bm, x_retV, b_nil, b_cons, l_nil, l_cons, a_one, a_cons, o_one, o_cons, p_none, p_some, c_none, c_some, bi_ok, bi_exc, bl_ok, bl_exc, lb_ok, lb_exc, th_ok, th_exc, lt_ok, lt_exc, se_nx, se_rt, se_exc, en_nx, en_rt, en_exc, op_shr, op_fr, of_t, of_f, cur_shr, cur_fr, cur_ho, cur_hb, cur_hf, curs_nil, curs_cons, Pu.frz1, Pu.Fl.free, sh_nil, sh_shr, putAt_ho, putAt_fr, bmf_clr, bmf_clrD, bmf_rev, nsts_ho, nsts_fr, nsts_shr, nsts_hb, nsts_hf, ta_nil, ta_shr, ta_ho, ta_hb, ta_hf, Pu.asn, Pu.asn.asns, Pu.wipeS, Pu.frzS, Pu.frz1S, Pu.bfn, Pu.bmT, Pu.dlf, Pu.kOf, bo_add, bo_sub, Pu.cmpo, Pu.truthy, Pu.isTy, Pu.isN, eq_ii, eq_ss, eq_bb, eq_nn, eq_is, eq_si, eq_ni, eq_in, eq_ns, eq_sn, eq_nb, eq_bn, eq_bs, eq_sb, Pu.item, i_0, i_1, i_2, i_3, i_4, Pu.iter, Pu.okIt, Pu.dOf, Pu.dOfs, List.set_cons_zero, List.set_cons_succ, List.getElem?_cons_zero, List.getElem?_cons_succ, List.length_cons, List.length_nil, Option.bind_some, Option.map_some, Option.isSome_some, Option.bind_none, Option.map_none, Option.getD_some, Bool.not_true, Bool.not_false, Va.str.injEq, Va.int.injEq, Va.bl.injEq, Bool.false_eq_true, Bool.true_and, Bool.and_true, Bool.false_and, Bool.and_false, decide_true, decide_false, if_true, if_false, ite_true, ite_false, reduceCtorEq, and_self, true_and, and_true, c1, c2, c3, lm, fo, po]
        · simp only [c1, c2, c3, decide_true, decide_false, Bool.and_false, Bool.false_eq_true, if_false]
          unfold Row.d
          simp only [turn_ap, standB, e_v, e_k, e_g, e_tup, e_lst, e_dct0, e_bin, e_neg, e_nt, e_an, e_or, e_cmp, e_cmp2, e_call, e_mk, e_meth, e_bi, e_fld, e_ix, e_sl, e_ife, e_isx, e_dl, x_asg, x_par, x_fld, x_sub, x_retN, x_pass, x_ite, x_rse, x_try, x_tryn, x_frz, r_k, r_tup, r_lst, r_bin, r_neg, r_nt, r_an, r_or, r_cmp, r_cmp2, r_call, r_mk, r_meth, r_bi, r_ix, r_sl, r_ife, r_g, r_fld, r_comp, r_compR, r_dl, r_dct0, x_exC, x_exM, x_bm, x_retV, b_nil, b_cons, l_nil, l_cons, a_one, a_cons, o_one, o_cons, p_none, p_some, c_none, c_some, bi_ok, bi_exc, bl_ok, bl_exc, lb_ok, lb_exc, th_ok, th_exc, lt_ok, lt_exc, se_nx, se_rt, se_exc, en_nx, en_rt, en_exc, op_shr, op_fr, of_t, of_f, cur_shr, cur_fr, cur_ho, cur_hb, cur_hf, curs_nil, curs_cons, Pu.frz1, Pu.Fl.free, sh_nil, sh_shr, putAt_ho, putAt_fr, bmf_clr, bmf_clrD, bmf_rev, nsts_ho, nsts_fr, nsts_shr, nsts_hb, nsts_hf, ta_nil, ta_shr, ta_ho, ta_hb, ta_hf, Pu.asn, Pu.asn.asns, Pu.wipeS, Pu.frzS, Pu.frz1S, Pu.bfn, Pu.bmT, Pu.dlf, Pu.kOf, bo_add, bo_sub, Pu.cmpo, Pu.truthy, Pu.isTy, Pu.isN, eq_ii, eq_ss, eq_bb, eq_nn, eq_is, eq_si, eq_ni, eq_in, eq_ns, eq_sn, eq_nb, eq_bn, eq_bs, eq_sb, Pu.item, i_0, i_1, i_2, i_3, i_4, Pu.iter, Pu.okIt, Pu.dOf, Pu.dOfs, List.set_cons_zero, List.set_cons_succ, List.getElem?_cons_zero, List.getElem?_cons_succ, List.length_cons, List.length_nil, Option.bind_some, Option.map_some, Option.isSome_some, Option.bind_none, Option.map_none, Option.getD_some, Bool.not_true, Bool.not_false, Va.str.injEq, Va.int.injEq, Va.bl.injEq, Bool.false_eq_true, Bool.true_and, Bool.and_true, Bool.false_and, Bool.and_false, decide_true, decide_false, if_true, if_false, ite_true, ite_false, reduceCtorEq, and_self, true_and, and_true, c1, c2, c3]
      · simp only [c1, c2, decide_true, decide_false, Bool.false_and, Bool.and_false, Bool.false_eq_true, if_false]
        unfold Row.d
        simp only [turn_ap, standB, e_v, e_k, e_g, e_tup, e_lst, e_dct0, e_bin, e_neg, e_nt, e_an, e_or, e_cmp, e_cmp2, e_call, e_mk, e_meth, e_bi, e_fld, e_ix, e_sl, e_ife, e_isx, e_dl, x_asg, x_par, x_fld, x_sub, x_retN, x_pass, x_ite, x_rse, x_try, x_tryn, x_frz, r_k, r_tup, r_lst, r_bin, r_neg, r_nt, r_an, r_or, r_cmp, r_cmp2, r_call, r_mk, r_meth, r_bi, r_ix, r_sl, r_ife, r_g, r_fld, r_comp, r_compR, r_dl, r_dct0, x_exC, x_exM, x_bm, x_retV, b_nil, b_cons, l_nil, l_cons, a_one, a_cons, o_one, o_cons, p_none, p_some, c_none, c_some, bi_ok, bi_exc, bl_ok, bl_exc, lb_ok, lb_exc, th_ok, th_exc, lt_ok, lt_exc, se_nx, se_rt, se_exc, en_nx, en_rt, en_exc, op_shr, op_fr, of_t, of_f, cur_shr, cur_fr, cur_ho, cur_hb, cur_hf, curs_nil, curs_cons, Pu.frz1, Pu.Fl.free, sh_nil, sh_shr, putAt_ho, putAt_fr, bmf_clr, bmf_clrD, bmf_rev, nsts_ho, nsts_fr, nsts_shr, nsts_hb, nsts_hf, ta_nil, ta_shr, ta_ho, ta_hb, ta_hf, Pu.asn, Pu.asn.asns, Pu.wipeS, Pu.frzS, Pu.frz1S, Pu.bfn, Pu.bmT, Pu.dlf, Pu.kOf, bo_add, bo_sub, Pu.cmpo, Pu.truthy, Pu.isTy, Pu.isN, eq_ii, eq_ss, eq_bb, eq_nn, eq_is, eq_si, eq_ni, eq_in, eq_ns, eq_sn, eq_nb, eq_bn, eq_bs, eq_sb, Pu.item, i_0, i_1, i_2, i_3, i_4, Pu.iter, Pu.okIt, Pu.dOf, Pu.dOfs, List.set_cons_zero, List.set_cons_succ, List.getElem?_cons_zero, List.getElem?_cons_succ, List.length_cons, List.length_nil, Option.bind_some, Option.map_some, Option.isSome_some, Option.bind_none, Option.map_none, Option.getD_some, Bool.not_true, Bool.not_false, Va.str.injEq, Va.int.injEq, Va.bl.injEq, Bool.false_eq_true, Bool.true_and, Bool.and_true, Bool.false_and, Bool.and_false, decide_true, decide_false, if_true, if_false, ite_true, ite_false, reduceCtorEq, and_self, true_and, and_true, c1, c2]
    · simp only [c1, decide_false, Bool.false_and, Bool.false_eq_true, if_false]
      unfold Row.d
      simp only [turn_ap, standB, e_v, e_k, e_g, e_tup, e_lst, e_dct0, e_bin, e_neg, e_nt, e_an, e_or, e_cmp, e_cmp2, e_call, e_mk, e_meth, e_bi, e_fld, e_ix, e_sl, e_ife, e_isx, e_dl, x_asg, x_par, x_fld, x_sub, x_retN, x_pass, x_ite, x_rse, x_try, x_tryn, x_frz, r_k, r_tup, r_lst, r_bin, r_neg, r_nt, r_an, r_or, r_cmp, r_cmp2, r_call, r_mk, r_meth, r_bi, r_ix, r_sl, r_ife, r_g, r_fld, r_comp, r_compR, r_dl, r_dct0, x_exC, x_exM, x_bm, x_retV, b_nil, b_cons, l_nil, l_cons, a_one, a_cons, o_one, o_cons, p_none, p_some, c_none, c_some, bi_ok, bi_exc, bl_ok, bl_exc, lb_ok, lb_exc, th_ok, th_exc, lt_ok, lt_exc, se_nx, se_rt, se_exc, en_nx, en_rt, en_exc, op_shr, op_fr, of_t, of_f, cur_shr, cur_fr, cur_ho, cur_hb, cur_hf, curs_nil, curs_cons, Pu.frz1, Pu.Fl.free, sh_nil, sh_shr, putAt_ho, putAt_fr, bmf_clr, bmf_clrD, bmf_rev, nsts_ho, nsts_fr, nsts_shr, nsts_hb, nsts_hf, ta_nil, ta_shr, ta_ho, ta_hb, ta_hf, Pu.asn, Pu.asn.asns, Pu.wipeS, Pu.frzS, Pu.frz1S, Pu.bfn, Pu.bmT, Pu.dlf, Pu.kOf, bo_add, bo_sub, Pu.cmpo, Pu.truthy, Pu.isTy, Pu.isN, eq_ii, eq_ss, eq_bb, eq_nn, eq_is, eq_si, eq_ni, eq_in, eq_ns, eq_sn, eq_nb, eq_bn, eq_bs, eq_sb, Pu.item, i_0, i_1, i_2, i_3, i_4, Pu.iter, Pu.okIt, Pu.dOf, Pu.dOfs, List.set_cons_zero, List.set_cons_succ, List.getElem?_cons_zero, List.getElem?_cons_succ, List.length_cons, List.length_nil, Option.bind_some, Option.map_some, Option.isSome_some, Option.bind_none, Option.map_none, Option.getD_some, Bool.not_true, Bool.not_false, Va.str.injEq, Va.int.injEq, Va.bl.injEq, Bool.false_eq_true, Bool.true_and, Bool.and_true, Bool.false_and, Bool.and_false, decide_true, decide_false, if_true, if_false, ite_true, ite_false, reduceCtorEq, and_self, true_and, and_true, c1]
  subst hO
  have S := std_stand (R := R) (m := m) (c := c) ok
  have hF : (byNum R).foldl (put1 m c) [] = stand R m c := rfl
  rw [hF] at e
  have ls := stand_len (m := m) (c := c) hl
  generalize stand R m c = F at *
  have e0 : evE (cf (k + 1)) (.meth M_told (.v 0) []) [.sh (.obj b), .sh (.int m), .sh (.int c), .ow (.dct []), .no, .no, .no, .no, .no, .no, .no] O = .ok (.lst ((byNum R).map Row.d)) .fr O := by
    simp only [e_v, e_k, e_g, e_tup, e_lst, e_dct0, e_bin, e_neg, e_nt, e_an, e_or, e_cmp, e_cmp2, e_call, e_mk, e_meth, e_bi, e_fld, e_ix, e_sl, e_ife, e_isx, e_dl, x_asg, x_par, x_fld, x_sub, x_retN, x_pass, x_ite, x_rse, x_try, x_tryn, x_frz, r_k, r_tup, r_lst, r_bin, r_neg, r_nt, r_an, r_or, r_cmp, r_cmp2, r_call, r_mk, r_meth, r_bi, r_ix, r_sl, r_ife, r_g, r_fld, r_comp, r_compR, r_dl, r_dct0, x_exC, x_exM, x_bm, x_retV, b_nil, b_cons, l_nil, l_cons, a_one, a_cons, o_one, o_cons, p_none, p_some, c_none, c_some, bi_ok, bi_exc, bl_ok, bl_exc, lb_ok, lb_exc, th_ok, th_exc, lt_ok, lt_exc, se_nx, se_rt, se_exc, en_nx, en_rt, en_exc, op_shr, op_fr, of_t, of_f, cur_shr, cur_fr, cur_ho, cur_hb, cur_hf, curs_nil, curs_cons, Pu.frz1, Pu.Fl.free, sh_nil, sh_shr, putAt_ho, putAt_fr, bmf_clr, bmf_clrD, bmf_rev, nsts_ho, nsts_fr, nsts_shr, nsts_hb, nsts_hf, ta_nil, ta_shr, ta_ho, ta_hb, ta_hf, Pu.asn, Pu.asn.asns, Pu.wipeS, Pu.frzS, Pu.frz1S, Pu.bfn, Pu.bmT, Pu.dlf, Pu.kOf, bo_add, bo_sub, Pu.cmpo, Pu.truthy, Pu.isTy, Pu.isN, eq_ii, eq_ss, eq_bb, eq_nn, eq_is, eq_si, eq_ni, eq_in, eq_ns, eq_sn, eq_nb, eq_bn, eq_bs, eq_sb, Pu.item, i_0, i_1, i_2, i_3, i_4, Pu.iter, Pu.okIt, Pu.dOf, Pu.dOfs, List.set_cons_zero, List.set_cons_succ, List.getElem?_cons_zero, List.getElem?_cons_succ, List.length_cons, List.length_nil, Option.bind_some, Option.map_some, Option.isSome_some, Option.bind_none, Option.map_none, Option.getD_some, Bool.not_true, Bool.not_false, Va.str.injEq, Va.int.injEq, Va.bl.injEq, Bool.false_eq_true, Bool.true_and, Bool.and_true, Bool.false_and, Bool.and_false, decide_true, decide_false, if_true, if_false, ite_true, ite_false, reduceCtorEq, and_self, true_and, and_true, h, bk_c, cl_Book, ml_Book_told, td]
  have c1 := x_fr (C := cf (k + 1)) (t := .tup [(.nm 4), (.nm 5), (.nm 6), (.nm 7), (.nm 8)]) (it := .meth M_told (.v 0) []) (b := standB) (s := [.sh (.obj b), .sh (.int m), .sh (.int c), .ow (.dct []), .no, .no, .no, .no, .no, .no, .no]) (O := O) (O1 := O) (d := .lst ((byNum R).map Row.d)) (fd := .fr) (l := (byNum R).map Row.d) e0 rfl rfl
  rw [stay_fr, e] at c1
  have sk := srt_abt S
  obtain ⟨s2, O2, e2, hO2, y10, rfl⟩ := goS_T (enc := Ky.d) (st := fun _ => true) (f := turnS (cf (k + 1)) (.nm 10) [.sub (.v 9) (.v 10) (.ix (.v 3) (.v 10))])
    (fun p s O' => O = O' ∧ ∃ y10, s = [.sh (.obj b), .sh (.int m), .sh (.int c), .ow (.dct F), y4, y5, y6, y7, y8, .ow (.dct (p.map fun y => (y, at_ F y))), y10]) (l := skeys F) (s := [.sh (.obj b), .sh (.int m), .sh (.int c), .ow (.dct F), y4, y5, y6, y7, y8, .ow (.dct []), .no]) (O := O) ⟨rfl, .no, rfl⟩ (fun _ _ _ _ => rfl) fun p y q e s O' ⟨e1, y10, es⟩ => by
    subst e1 es
    have mem : ∀ z ∈ skeys F, z ∈ F.map (·.1) := fun z hz => (skeys_perm F).mem_iff.mp hz
    have hm : y ∈ F.map (·.1) := mem y (by rw [e]; simp)
    have hp : ∀ z ∈ p, ∃ f : Fact, f.ok ∧ z = f.about := fun z hz => by
      obtain ⟨x, hx, rfl⟩ := List.mem_map.mp (mem z (by rw [e]; simp [hz]))
      exact S.ab x hx
    obtain ⟨x, hx, ex⟩ := List.mem_map.mp hm
    obtain ⟨f, fo, ef⟩ := S.ab x hx
    obtain ⟨g, _, eg⟩ := std_va S hm
    have hg := dget_some hm
    have ndk : (skeys F).Nodup := (skeys_perm F).nodup_iff.mpr S.nd
    rw [← ex, ef] at eg hg e ⊢
    have ek : keyOf f.about.d = some f.about := key_mat f
    have fit := std_fit S f
    have fit2 : kFit gls (p.map fun y => (y, at_ F y)) f.about = true := by
      unfold kFit
      rw [abt_isT]
      have : ((p.map fun y => (y, at_ F y)).all fun p => p.1.isT gls) = true := by
        rw [List.all_map, List.all_eq_true]
        intro z hz
        obtain ⟨g, _, rfl⟩ := hp z hz
        exact abt_isT g
      rw [this]
      simp
    have lp : (p.map fun y => (y, at_ F y)).length < sizeLine := by
      have := congrArg List.length e
      rw [(skeys_perm F).length_eq, List.length_map] at this
      simp at this
      have := le1000
      rw [List.length_map]
      omega
    have su := subU_ok (v := at_ F f.about) fit2 lp
    have fp : dput (p.map fun y => (y, at_ F y)) f.about (at_ F f.about) = (p ++ [f.about]).map fun y => (y, at_ F y) := by
      have := fold_put (F := F) (l := [f.about]) (acc := p) (by rw [e] at ndk; rw [List.nodup_append] at ndk ⊢; exact ⟨ndk.1, by simp, fun a ha b hb => ndk.2.2 a ha b (by rw [List.mem_singleton] at hb; simp [hb])⟩)
      simpa using this
    have no := fact_not_own g
    rw [fp] at su
    rw [eg] at su hg
    refine ⟨_, O, ?_, rfl, .sh f.about.d, rfl⟩
    simp only [turn_ap, e_v, e_k, e_g, e_tup, e_lst, e_dct0, e_bin, e_neg, e_nt, e_an, e_or, e_cmp, e_cmp2, e_call, e_mk, e_meth, e_bi, e_fld, e_ix, e_sl, e_ife, e_isx, e_dl, x_asg, x_par, x_fld, x_sub, x_retN, x_pass, x_ite, x_rse, x_try, x_tryn, x_frz, r_k, r_tup, r_lst, r_bin, r_neg, r_nt, r_an, r_or, r_cmp, r_cmp2, r_call, r_mk, r_meth, r_bi, r_ix, r_sl, r_ife, r_g, r_fld, r_comp, r_compR, r_dl, r_dct0, x_exC, x_exM, x_bm, x_retV, b_nil, b_cons, l_nil, l_cons, a_one, a_cons, o_one, o_cons, p_none, p_some, c_none, c_some, bi_ok, bi_exc, bl_ok, bl_exc, lb_ok, lb_exc, th_ok, th_exc, lt_ok, lt_exc, se_nx, se_rt, se_exc, en_nx, en_rt, en_exc, op_shr, op_fr, of_t, of_f, cur_shr, cur_fr, cur_ho, cur_hb, cur_hf, curs_nil, curs_cons, Pu.frz1, Pu.Fl.free, sh_nil, sh_shr, putAt_ho, putAt_fr, bmf_clr, bmf_clrD, bmf_rev, nsts_ho, nsts_fr, nsts_shr, nsts_hb, nsts_hf, ta_nil, ta_shr, ta_ho, ta_hb, ta_hf, Pu.asn, Pu.asn.asns, Pu.wipeS, Pu.frzS, Pu.frz1S, Pu.bfn, Pu.bmT, Pu.dlf, Pu.kOf, bo_add, bo_sub, Pu.cmpo, Pu.truthy, Pu.isTy, Pu.isN, eq_ii, eq_ss, eq_bb, eq_nn, eq_is, eq_si, eq_ni, eq_in, eq_ns, eq_sn, eq_nb, eq_bn, eq_bs, eq_sb, Pu.item, i_0, i_1, i_2, i_3, i_4, Pu.iter, Pu.okIt, Pu.dOf, Pu.dOfs, List.set_cons_zero, List.set_cons_succ, List.getElem?_cons_zero, List.getElem?_cons_succ, List.length_cons, List.length_nil, Option.bind_some, Option.map_some, Option.isSome_some, Option.bind_none, Option.map_none, Option.getD_some, Bool.not_true, Bool.not_false, Va.str.injEq, Va.int.injEq, Va.bl.injEq, Bool.false_eq_true, Bool.true_and, Bool.and_true, Bool.false_and, Bool.and_false, decide_true, decide_false, if_true, if_false, ite_true, ite_false, reduceCtorEq, and_self, true_and, and_true, ek, fit, hg, no, su]
  subst hO2
  have c2 := x_fr (C := cf (k + 1)) (t := .nm 10) (it := .bi .sorted [.v 3]) (b := [.sub (.v 9) (.v 10) (.ix (.v 3) (.v 10))]) (s := [.sh (.obj b), .sh (.int m), .sh (.int c), .ow (.dct F), y4, y5, y6, y7, y8, .ow (.dct []), .no]) (O := O) (O1 := O) (d := .lst ((skeys F).map Ky.d)) (fd := .fr) (l := (skeys F).map Ky.d) (by simp only [e_v, e_k, e_g, e_tup, e_lst, e_dct0, e_bin, e_neg, e_nt, e_an, e_or, e_cmp, e_cmp2, e_call, e_mk, e_meth, e_bi, e_fld, e_ix, e_sl, e_ife, e_isx, e_dl, x_asg, x_par, x_fld, x_sub, x_retN, x_pass, x_ite, x_rse, x_try, x_tryn, x_frz, r_k, r_tup, r_lst, r_bin, r_neg, r_nt, r_an, r_or, r_cmp, r_cmp2, r_call, r_mk, r_meth, r_bi, r_ix, r_sl, r_ife, r_g, r_fld, r_comp, r_compR, r_dl, r_dct0, x_exC, x_exM, x_bm, x_retV, b_nil, b_cons, l_nil, l_cons, a_one, a_cons, o_one, o_cons, p_none, p_some, c_none, c_some, bi_ok, bi_exc, bl_ok, bl_exc, lb_ok, lb_exc, th_ok, th_exc, lt_ok, lt_exc, se_nx, se_rt, se_exc, en_nx, en_rt, en_exc, op_shr, op_fr, of_t, of_f, cur_shr, cur_fr, cur_ho, cur_hb, cur_hf, curs_nil, curs_cons, Pu.frz1, Pu.Fl.free, sh_nil, sh_shr, putAt_ho, putAt_fr, bmf_clr, bmf_clrD, bmf_rev, nsts_ho, nsts_fr, nsts_shr, nsts_hb, nsts_hf, ta_nil, ta_shr, ta_ho, ta_hb, ta_hf, Pu.asn, Pu.asn.asns, Pu.wipeS, Pu.frzS, Pu.frz1S, Pu.bfn, Pu.bmT, Pu.dlf, Pu.kOf, bo_add, bo_sub, Pu.cmpo, Pu.truthy, Pu.isTy, Pu.isN, eq_ii, eq_ss, eq_bb, eq_nn, eq_is, eq_si, eq_ni, eq_in, eq_ns, eq_sn, eq_nb, eq_bn, eq_bs, eq_sb, Pu.item, i_0, i_1, i_2, i_3, i_4, Pu.iter, Pu.okIt, Pu.dOf, Pu.dOfs, List.set_cons_zero, List.set_cons_succ, List.getElem?_cons_zero, List.getElem?_cons_succ, List.length_cons, List.length_nil, Option.bind_some, Option.map_some, Option.isSome_some, Option.bind_none, Option.map_none, Option.getD_some, Bool.not_true, Bool.not_false, Va.str.injEq, Va.int.injEq, Va.bl.injEq, Bool.false_eq_true, Bool.true_and, Bool.and_true, Bool.false_and, Bool.and_false, decide_true, decide_false, if_true, if_false, ite_true, ite_false, reduceCtorEq, and_self, true_and, and_true, sk]) rfl rfl
  rw [stay_fr, e2] at c2
  have c1' := c1
  unfold standB at c1'
  simp only [f_Book_standing, b_f_Book_standing, Pu.begin_, List.map_cons, List.map_nil, List.drop_nil, List.append_nil, List.nil_append, List.replicate, List.cons_append, e_v, e_k, e_g, e_tup, e_lst, e_dct0, e_bin, e_neg, e_nt, e_an, e_or, e_cmp, e_cmp2, e_call, e_mk, e_meth, e_bi, e_fld, e_ix, e_sl, e_ife, e_isx, e_dl, x_asg, x_par, x_fld, x_sub, x_retN, x_pass, x_ite, x_rse, x_try, x_tryn, x_frz, r_k, r_tup, r_lst, r_bin, r_neg, r_nt, r_an, r_or, r_cmp, r_cmp2, r_call, r_mk, r_meth, r_bi, r_ix, r_sl, r_ife, r_g, r_fld, r_comp, r_compR, r_dl, r_dct0, x_exC, x_exM, x_bm, x_retV, b_nil, b_cons, l_nil, l_cons, a_one, a_cons, o_one, o_cons, p_none, p_some, c_none, c_some, bi_ok, bi_exc, bl_ok, bl_exc, lb_ok, lb_exc, th_ok, th_exc, lt_ok, lt_exc, se_nx, se_rt, se_exc, en_nx, en_rt, en_exc, op_shr, op_fr, of_t, of_f, cur_shr, cur_fr, cur_ho, cur_hb, cur_hf, curs_nil, curs_cons, Pu.frz1, Pu.Fl.free, sh_nil, sh_shr, putAt_ho, putAt_fr, bmf_clr, bmf_clrD, bmf_rev, nsts_ho, nsts_fr, nsts_shr, nsts_hb, nsts_hf, ta_nil, ta_shr, ta_ho, ta_hb, ta_hf, Pu.asn, Pu.asn.asns, Pu.wipeS, Pu.frzS, Pu.frz1S, Pu.bfn, Pu.bmT, Pu.dlf, Pu.kOf, bo_add, bo_sub, Pu.cmpo, Pu.truthy, Pu.isTy, Pu.isN, eq_ii, eq_ss, eq_bb, eq_nn, eq_is, eq_si, eq_ni, eq_in, eq_ns, eq_sn, eq_nb, eq_bn, eq_bs, eq_sb, Pu.item, i_0, i_1, i_2, i_3, i_4, Pu.iter, Pu.okIt, Pu.dOf, Pu.dOfs, List.set_cons_zero, List.set_cons_succ, List.getElem?_cons_zero, List.getElem?_cons_succ, List.length_cons, List.length_nil, Option.bind_some, Option.map_some, Option.isSome_some, Option.bind_none, Option.map_none, Option.getD_some, Bool.not_true, Bool.not_false, Va.str.injEq, Va.int.injEq, Va.bl.injEq, Bool.false_eq_true, Bool.true_and, Bool.and_true, Bool.false_and, Bool.and_false, decide_true, decide_false, if_true, if_false, ite_true, ite_false, reduceCtorEq, and_self, true_and, and_true, c1', c2]
  rfl
end K82
set_option Elab.async false
set_option linter.all false
set_option maxRecDepth 100000
set_option maxHeartbeats 4000000
namespace K82
open Pu
open Dl (Va Ex Sm Tg Fn sortV leV srtOk)
open PySem (Str sizeLine PyData)
/-! ### data -/
theorem gd_fact {f : Fact} (g : f.ok) (n : Nat) : gd (n + 1) f.d = true := by
  obtain ⟨s1, s2, s3, s4⟩ := strOk_lit
  cases f with
  | is m a p r => simp [Fact.d, gd, strOk_of g.1, s1]
  | gone m => simp [Fact.d, gd, strOk_of (show Good m from g), s2]
  | wth a b => simp [Fact.d, gd, strOk_of g.1, strOk_of g.2.1, s3]
  | apart a b => simp [Fact.d, gd, strOk_of g.1, strOk_of g.2.1, s4]
theorem gd_row {r : Row} (g : r.fact.ok) (n : Nat) : gd (n + 2) r.d = true := by
  simp [Row.d, gd, gd_fact g n]
theorem gd_rows {R : List Row} (g : ∀ r ∈ R, r.Ok) (n : Nat) : gd (n + 3) (.lst (R.map Row.d)) = true := by
  unfold gd
  rw [List.all_map, List.all_eq_true]
  intro r hr
  exact gd_row (g r hr).fact n
theorem gd_mat {f : Fact} (g : f.ok) (n : Nat) : gd (n + 1) f.mat = true := by
  obtain ⟨s1, s2⟩ := strOk_lit2
  cases f with
  | is m a p r => simp [Fact.mat, Fact.about, Ky.d, At.d, gd, strOk_of g.1, s1]
  | gone m => simp [Fact.mat, Fact.about, Ky.d, At.d, gd, strOk_of (show Good m from g), s1]
  | wth a b => simp [Fact.mat, Fact.about, Ky.d, At.d, gd, strOk_of (good_pair g.1 g.2.1).1, strOk_of (good_pair g.1 g.2.1).2, s2]
  | apart a b => simp [Fact.mat, Fact.about, Ky.d, At.d, gd, strOk_of (good_pair g.1 g.2.1).1, strOk_of (good_pair g.1 g.2.1).2, s2]
theorem ky_d_inj (f g : Fact) : f.mat = g.mat ↔ f.about = g.about := by
  constructor
  · intro e
    have a := key_mat f
    rw [e, key_mat g] at a
    exact (Option.some.inj a).symm
  · intro e
    unfold Fact.mat
    rw [e]
theorem mat_eq {f g : Fact} (hf : f.ok) (hg : g.ok) : eqq f.mat g.mat = some (decide (f.about = g.about)) := by
  by_cases c : f.about = g.about
  · have e := (ky_d_inj f g).mpr c
    rw [e, eqq_same (gd_mat hg 19), decide_eq_true c]
  · rw [eqq_ne (gd_mat hf 19) (gd_mat hg 19) (fun e => c ((ky_d_inj f g).mp e)), decide_eq_false c]
theorem rows_nil {R : List Row} (g : ∀ r ∈ R, r.Ok) : eqq (.lst (R.map Row.d)) (.lst []) = some R.isEmpty := by
  cases R with
  | nil => exact eqq_same (by decide)
  | cons r R => exact eqq_ne (gd_rows g 17) (by decide) (fun e => by cases e)
/-! ### months of a new news -/
def rival (r x : Row) (m : Int) : Bool := decide (r.num < x.num) && (decide (x.first ≤ m) && (decide (m ≤ x.last) && decide (x.fact.about = r.fact.about)))
def span (r : Row) : List Int := (List.range (r.last + 1 - r.first).toNat).map fun (i : Nat) => r.first + (i : Int)
def months (R : List Row) (r : Row) : List Int := (span r).filter fun m => !(R.any fun x => rival r x m)
theorem span_rng {r : Row} (g : r.Ok) : rngI [.int r.first, .int (r.last + 1)] = some ((span r).map D.int) := by
  have := g.first
  have := g.last
  rw [rng_two ⟨by omega, by omega⟩ ⟨by omega, by omega⟩, ints_range]
  rfl
theorem span_len {r : Row} (g : r.Ok) : (span r).length ≤ 24 := by
  have := g.first
  have := g.last
  unfold span
  rw [List.length_map, List.length_range]
  omega
def rivs (r : Row) (L : List Row) : List Row := L.filter fun x => decide (r.num < x.num) && decide (x.fact.about = r.fact.about)
def monthB : List Sm := [.asg (.nm 4) (.k (.bl true)), .fr (.nm 5) (.v 0) [.ite (.an [(.cmp .gt (.ix (.v 5) (.k (.int 0))) (.ix (.v 1) (.k (.int 0)))), (.cmp .le (.ix (.v 5) (.k (.int 2))) (.v 3)), (.cmp .le (.v 3) (.ix (.v 5) (.k (.int 3))))]) [.ite (.cmp .eq (.call i__law_matter [(.ix (.v 5) (.k (.int 4)))]) (.call i__law_matter [(.ix (.v 1) (.k (.int 4)))])) [.asg (.nm 4) (.k (.bl false))] []] []], .ite (.v 4) [.ex (.bm .append (.v 2) [(.v 3)])] []]
theorem law_months_ok {k : Nat} {O : Os} {R : List Row} {r : Row} (g : r.Ok) (ok : ∀ x ∈ R, x.Ok) (hl : R.length ≤ 100) : Pu.run Q (k + 2) i__law_months [.bo (.lst (R.map Row.d)), .sh r.d] O = .ok (.lst ((months R r).map .int)) .fr O := by
  rw [run_at (d := f__law_months) rfl rfl]
  have inner : ∀ (m : Int) (y5 : Sl) (a : D), ∃ y5', exS (cf (k + 1)) (.fr (.nm 5) (.v 0) [.ite (.an [(.cmp .gt (.ix (.v 5) (.k (.int 0))) (.ix (.v 1) (.k (.int 0)))), (.cmp .le (.ix (.v 5) (.k (.int 2))) (.v 3)), (.cmp .le (.v 3) (.ix (.v 5) (.k (.int 3))))]) [.ite (.cmp .eq (.call i__law_matter [(.ix (.v 5) (.k (.int 4)))]) (.call i__law_matter [(.ix (.v 1) (.k (.int 4)))])) [.asg (.nm 4) (.k (.bl false))] []] []]) [.bo (.lst (R.map Row.d)), .sh r.d, .ow a, .sh (.int m), .sh (.bl true), y5] O =
      .nx [.bo (.lst (R.map Row.d)), .sh r.d, .ow a, .sh (.int m), .sh (.bl (!(R.any fun x => rival r x m))), y5'] O := fun m y5 a => by
    obtain ⟨s', O', e, hO, y5', rfl⟩ := goS_T (enc := Row.d) (st := fun _ => true) (f := turnS (cf (k + 1)) (.nm 5) [.ite (.an [(.cmp .gt (.ix (.v 5) (.k (.int 0))) (.ix (.v 1) (.k (.int 0)))), (.cmp .le (.ix (.v 5) (.k (.int 2))) (.v 3)), (.cmp .le (.v 3) (.ix (.v 5) (.k (.int 3))))]) [.ite (.cmp .eq (.call i__law_matter [(.ix (.v 5) (.k (.int 4)))]) (.call i__law_matter [(.ix (.v 1) (.k (.int 4)))])) [.asg (.nm 4) (.k (.bl false))] []] []])
      (fun p s O' => O = O' ∧ ∃ y5', s = [.bo (.lst (R.map Row.d)), .sh r.d, .ow a, .sh (.int m), .sh (.bl (!(p.any fun x => rival r x m))), y5']) (l := R) (s := [.bo (.lst (R.map Row.d)), .sh r.d, .ow a, .sh (.int m), .sh (.bl true), y5]) (O := O) ⟨rfl, y5, rfl⟩ (fun _ _ _ _ => rfl) fun p x q e s O' ⟨e1, y5', es⟩ => by
      subst e1 es
      have hx : x ∈ R := by rw [e]; simp
      have l1 := law_matter_ok (k := k) (O := O) g.fact
      have l2 := law_matter_ok (k := k) (O := O) (ok x hx).fact
      have me := mat_eq (ok x hx).fact g.fact
      refine ⟨_, O, ?_, rfl, .sh x.d, rfl⟩
      rw [List.any_append, List.any_cons, List.any_nil, Bool.or_false]
      generalize (p.any fun x => rival r x m) = b
      generalize R.map Row.d = Rd
      unfold rival
      by_cases c1 : r.num < x.num
      · by_cases c2 : x.first ≤ m
        · by_cases c3 : m ≤ x.last
          · by_cases c4 : x.fact.about = r.fact.about
            · rw [decide_eq_true c4] at me
              unfold Row.d
              simp only [turn_ap, e_v, e_k, e_g, e_tup, e_lst, e_dct0, e_bin, e_neg, e_nt, e_an, e_or, e_cmp, e_cmp2, e_call, e_mk, e_meth, e_bi, e_fld, e_ix, e_sl, e_ife, e_isx, e_dl, x_asg, x_par, x_fld, x_sub, x_retN, x_pass, x_ite, x_rse, x_try, x_tryn, x_frz, r_k, r_tup, r_lst, r_bin, r_neg, r_nt, r_an, r_or, r_cmp, r_cmp2, r_call, r_mk, r_meth, r_bi, r_ix, r_sl, r_ife, r_g, r_fld, r_comp, r_compR, r_dl, r_dct0, x_exC, x_exM, x_bm, x_retV, b_nil, b_cons, l_nil, l_cons, a_one, a_cons, o_one, o_cons, p_none, p_some, c_none, c_some, bi_ok, bi_exc, bl_ok, bl_exc, lb_ok, lb_exc, th_ok, th_exc, lt_ok, lt_exc, se_nx, se_rt, se_exc, en_nx, en_rt, en_exc, op_shr, op_fr, of_t, of_f, cur_shr, cur_fr, cur_ho, cur_hb, cur_hf, curs_nil, curs_cons, Pu.frz1, Pu.Fl.free, sh_nil, sh_shr, putAt_ho, putAt_fr, bmf_clr, bmf_clrD, bmf_rev, nsts_ho, nsts_fr, nsts_shr, nsts_hb, nsts_hf, ta_nil, ta_shr, ta_ho, ta_hb, ta_hf, Pu.asn, Pu.asn.asns, Pu.wipeS, Pu.frzS, Pu.frz1S, Pu.bfn, Pu.bmT, Pu.dlf, Pu.kOf, bo_add, bo_sub, Pu.cmpo, Pu.truthy, Pu.isTy, Pu.isN, eq_ii, eq_ss, eq_bb, eq_nn, eq_is, eq_si, eq_ni, eq_in, eq_ns, eq_sn, eq_nb, eq_bn, eq_bs, eq_sb, Pu.item, i_0, i_1, i_2, i_3, i_4, Pu.iter, Pu.okIt, Pu.dOf, Pu.dOfs, List.set_cons_zero, List.set_cons_succ, List.getElem?_cons_zero, List.getElem?_cons_succ, List.length_cons, List.length_nil, Option.bind_some, Option.map_some, Option.isSome_some, Option.bind_none, Option.map_none, Option.getD_some, Bool.not_true, Bool.not_false, Va.str.injEq, Va.int.injEq, Va.bl.injEq, Bool.false_eq_true, Bool.true_and, Bool.and_true, Bool.false_and, Bool.and_false, decide_true, decide_false, if_true, if_false, ite_true, ite_false, reduceCtorEq, and_self, true_and, and_true, c1, c2, c3, c4, l1, l2]
              simp only [me, e_v, e_k, e_g, e_tup, e_lst, e_dct0, e_bin, e_neg, e_nt, e_an, e_or, e_cmp, e_cmp2, e_call, e_mk, e_meth, e_bi, e_fld, e_ix, e_sl, e_ife, e_isx, e_dl, x_asg, x_par, x_fld, x_sub, x_retN, x_pass, x_ite, x_rse, x_try, x_tryn, x_frz, r_k, r_tup, r_lst, r_bin, r_neg, r_nt, r_an, r_or, r_cmp, r_cmp2, r_call, r_mk, r_meth, r_bi, r_ix, r_sl, r_ife, r_g, r_fld, r_comp, r_compR, r_dl, r_dct0, x_exC, x_exM, x_bm, x_retV, b_nil, b_cons, l_nil, l_cons, a_one, a_cons, o_one, o_cons, p_none, p_some, c_none, c_some, bi_ok, bi_exc, bl_ok, bl_exc, lb_ok, lb_exc, th_ok, th_exc, lt_ok, lt_exc, se_nx, se_rt, se_exc, en_nx, en_rt, en_exc, op_shr, op_fr, of_t, of_f, cur_shr, cur_fr, cur_ho, cur_hb, cur_hf, curs_nil, curs_cons, Pu.frz1, Pu.Fl.free, sh_nil, sh_shr, putAt_ho, putAt_fr, bmf_clr, bmf_clrD, bmf_rev, nsts_ho, nsts_fr, nsts_shr, nsts_hb, nsts_hf, ta_nil, ta_shr, ta_ho, ta_hb, ta_hf, Pu.asn, Pu.asn.asns, Pu.wipeS, Pu.frzS, Pu.frz1S, Pu.bfn, Pu.bmT, Pu.dlf, Pu.kOf, bo_add, bo_sub, Pu.cmpo, Pu.truthy, Pu.isTy, Pu.isN, eq_ii, eq_ss, eq_bb, eq_nn, eq_is, eq_si, eq_ni, eq_in, eq_ns, eq_sn, eq_nb, eq_bn, eq_bs, eq_sb, Pu.item, i_0, i_1, i_2, i_3, i_4, Pu.iter, Pu.okIt, Pu.dOf, Pu.dOfs, List.set_cons_zero, List.set_cons_succ, List.getElem?_cons_zero, List.getElem?_cons_succ, List.length_cons, List.length_nil, Option.bind_some, Option.map_some, Option.isSome_some, Option.bind_none, Option.map_none, Option.getD_some, Bool.not_true, Bool.not_false, Va.str.injEq, Va.int.injEq, Va.bl.injEq, Bool.false_eq_true, Bool.true_and, Bool.and_true, Bool.false_and, Bool.and_false, decide_true, decide_false, if_true, if_false, ite_true, ite_false, reduceCtorEq, and_self, true_and, and_true, c1, c2, c3, c4, Bool.or_true]
            · rw [decide_eq_false c4] at me
              unfold Row.d
              simp only [turn_ap, e_v, e_k, e_g, e_tup, e_lst, e_dct0, e_bin, e_neg, e_nt, e_an, e_or, e_cmp, e_cmp2, e_call, e_mk, e_meth, e_bi, e_fld, e_ix, e_sl, e_ife, e_isx, e_dl, x_asg, x_par, x_fld, x_sub, x_retN, x_pass, x_ite, x_rse, x_try, x_tryn, x_frz, r_k, r_tup, r_lst, r_bin, r_neg, r_nt, r_an, r_or, r_cmp, r_cmp2, r_call, r_mk, r_meth, r_bi, r_ix, r_sl, r_ife, r_g, r_fld, r_comp, r_compR, r_dl, r_dct0, x_exC, x_exM, x_bm, x_retV, b_nil, b_cons, l_nil, l_cons, a_one, a_cons, o_one, o_cons, p_none, p_some, c_none, c_some, bi_ok, bi_exc, bl_ok, bl_exc, lb_ok, lb_exc, th_ok, th_exc, lt_ok, lt_exc, se_nx, se_rt, se_exc, en_nx, en_rt, en_exc, op_shr, op_fr, of_t, of_f, cur_shr, cur_fr, cur_ho, cur_hb, cur_hf, curs_nil, curs_cons, Pu.frz1, Pu.Fl.free, sh_nil, sh_shr, putAt_ho, putAt_fr, bmf_clr, bmf_clrD, bmf_rev, nsts_ho, nsts_fr, nsts_shr, nsts_hb, nsts_hf, ta_nil, ta_shr, ta_ho, ta_hb, ta_hf, Pu.asn, Pu.asn.asns, Pu.wipeS, Pu.frzS, Pu.frz1S, Pu.bfn, Pu.bmT, Pu.dlf, Pu.kOf, bo_add, bo_sub, Pu.cmpo, Pu.truthy, Pu.isTy, Pu.isN, eq_ii, eq_ss, eq_bb, eq_nn, eq_is, eq_si, eq_ni, eq_in, eq_ns, eq_sn, eq_nb, eq_bn, eq_bs, eq_sb, Pu.item, i_0, i_1, i_2, i_3, i_4, Pu.iter, Pu.okIt, Pu.dOf, Pu.dOfs, List.set_cons_zero, List.set_cons_succ, List.getElem?_cons_zero, List.getElem?_cons_succ, List.length_cons, List.length_nil, Option.bind_some, Option.map_some, Option.isSome_some, Option.bind_none, Option.map_none, Option.getD_some, Bool.not_true, Bool.not_false, Va.str.injEq, Va.int.injEq, Va.bl.injEq, Bool.false_eq_true, Bool.true_and, Bool.and_true, Bool.false_and, Bool.and_false, decide_true, decide_false, if_true, if_false, ite_true, ite_false, reduceCtorEq, and_self, true_and, and_true, c1, c2, c3, c4, l1, l2]
              simp only [me, e_v, e_k, e_g, e_tup, e_lst, e_dct0, e_bin, e_neg, e_nt, e_an, e_or, e_cmp, e_cmp2, e_call, e_mk, e_meth, e_bi, e_fld, e_ix, e_sl, e_ife, e_isx, e_dl, x_asg, x_par, x_fld, x_sub, x_retN, x_pass, x_ite, x_rse, x_try, x_tryn, x_frz, r_k, r_tup, r_lst, r_bin, r_neg, r_nt, r_an, r_or, r_cmp, r_cmp2, r_call, r_mk, r_meth, r_bi, r_ix, r_sl, r_ife, r_g, r_fld, r_comp, r_compR, r_dl, r_dct0, x_exC, x_exM, x_bm, x_retV, b_nil, b_cons, l_nil, l_cons, a_one, a_cons, o_one, o_cons, p_none, p_some, c_none, c_some, bi_ok, bi_exc, bl_ok, bl_exc, lb_ok, lb_exc, th_ok, th_exc, lt_ok, lt_exc, se_nx, se_rt, se_exc, en_nx, en_rt, en_exc, op_shr, op_fr, of_t, of_f, cur_shr, cur_fr, cur_ho, cur_hb, cur_hf, curs_nil, curs_cons, Pu.frz1, Pu.Fl.free, sh_nil, sh_shr, putAt_ho, putAt_fr, bmf_clr, bmf_clrD, bmf_rev, nsts_ho, nsts_fr, nsts_shr, nsts_hb, nsts_hf, ta_nil, ta_shr, ta_ho, ta_hb, ta_hf, Pu.asn, Pu.asn.asns, Pu.wipeS, Pu.frzS, Pu.frz1S, Pu.bfn, Pu.bmT, Pu.dlf, Pu.kOf, bo_add, bo_sub, Pu.cmpo, Pu.truthy, Pu.isTy, Pu.isN, eq_ii, eq_ss, eq_bb, eq_nn, eq_is, eq_si, eq_ni, eq_in, eq_ns, eq_sn, eq_nb, eq_bn, eq_bs, eq_sb, Pu.item, i_0, i_1, i_2, i_3, i_4, Pu.iter, Pu.okIt, Pu.dOf, Pu.dOfs, List.set_cons_zero, List.set_cons_succ, List.getElem?_cons_zero, List.getElem?_cons_succ, List.length_cons, List.length_nil, Option.bind_some, Option.map_some, Option.isSome_some, Option.bind_none, Option.map_none, Option.getD_some, Bool.not_true, Bool.not_false, Va.str.injEq, Va.int.injEq, Va.bl.injEq, Bool.false_eq_true, Bool.true_and, Bool.and_true, Bool.false_and, Bool.and_false, decide_true, decide_false, if_true, if_false, ite_true, ite_false, reduceCtorEq, and_self, true_and, and_true, c1, c2, c3, c4, Bool.or_false]
          · unfold Row.d
            simp only [turn_ap, e_v, e_k, e_g, e_tup, e_lst, e_dct0, e_bin, e_neg, e_nt, e_an, e_or, e_cmp, e_cmp2, e_call, e_mk, e_meth, e_bi, e_fld, e_ix, e_sl, e_ife, e_isx, e_dl, x_asg, x_par, x_fld, x_sub, x_retN, x_pass, x_ite, x_rse, x_try, x_tryn, x_frz, r_k, r_tup, r_lst, r_bin, r_neg, r_nt, r_an, r_or, r_cmp, r_cmp2, r_call, r_mk, r_meth, r_bi, r_ix, r_sl, r_ife, r_g, r_fld, r_comp, r_compR, r_dl, r_dct0, x_exC, x_exM, x_bm, x_retV, b_nil, b_cons, l_nil, l_cons, a_one, a_cons, o_one, o_cons, p_none, p_some, c_none, c_some, bi_ok, bi_exc, bl_ok, bl_exc, lb_ok, lb_exc, th_ok, th_exc, lt_ok, lt_exc, se_nx, se_rt, se_exc, en_nx, en_rt, en_exc, op_shr, op_fr, of_t, of_f, cur_shr, cur_fr, cur_ho, cur_hb, cur_hf, curs_nil, curs_cons, Pu.frz1, Pu.Fl.free, sh_nil, sh_shr, putAt_ho, putAt_fr, bmf_clr, bmf_clrD, bmf_rev, nsts_ho, nsts_fr, nsts_shr, nsts_hb, nsts_hf, ta_nil, ta_shr, ta_ho, ta_hb, ta_hf, Pu.asn, Pu.asn.asns, Pu.wipeS, Pu.frzS, Pu.frz1S, Pu.bfn, Pu.bmT, Pu.dlf, Pu.kOf, bo_add, bo_sub, Pu.cmpo, Pu.truthy, Pu.isTy, Pu.isN, eq_ii, eq_ss, eq_bb, eq_nn, eq_is, eq_si, eq_ni, eq_in, eq_ns, eq_sn, eq_nb, eq_bn, eq_bs, eq_sb, Pu.item, i_0, i_1, i_2, i_3, i_4, Pu.iter, Pu.okIt, Pu.dOf, Pu.dOfs, List.set_cons_zero, List.set_cons_succ, List.getElem?_cons_zero, List.getElem?_cons_succ, List.length_cons, List.length_nil, Option.bind_some, Option.map_some, Option.isSome_some, Option.bind_none, Option.map_none, Option.getD_some, Bool.not_true, Bool.not_false, Va.str.injEq, Va.int.injEq, Va.bl.injEq, Bool.false_eq_true, Bool.true_and, Bool.and_true, Bool.false_and, Bool.and_false, decide_true, decide_false, if_true, if_false, ite_true, ite_false, reduceCtorEq, and_self, true_and, and_true, c1, c2, c3, Bool.or_false]
        · unfold Row.d
          simp only [turn_ap, e_v, e_k, e_g, e_tup, e_lst, e_dct0, e_bin, e_neg, e_nt, e_an, e_or, e_cmp, e_cmp2, e_call, e_mk, e_meth, e_bi, e_fld, e_ix, e_sl, e_ife, e_isx, e_dl, x_asg, x_par, x_fld, x_sub, x_retN, x_pass, x_ite, x_rse, x_try, x_tryn, x_frz, r_k, r_tup, r_lst, r_bin, r_neg, r_nt, r_an, r_or, r_cmp, r_cmp2, r_call, r_mk, r_meth, r_bi, r_ix, r_sl, r_ife, r_g, r_fld, r_comp, r_compR, r_dl, r_dct0, x_exC, x_exM, x_bm, x_retV, b_nil, b_cons, l_nil, l_cons, a_one, a_cons, o_one, o_cons, p_none, p_some, c_none, c_some, bi_ok, bi_exc, bl_ok, bl_exc, lb_ok, lb_exc, th_ok, th_exc, lt_ok, lt_exc, se_nx, se_rt, se_exc, en_nx, en_rt, en_exc, op_shr, op_fr, of_t, of_f, cur_shr, cur_fr, cur_ho, cur_hb, cur_hf, curs_nil, curs_cons, Pu.frz1, Pu.Fl.free, sh_nil, sh_shr, putAt_ho, putAt_fr, bmf_clr, bmf_clrD, bmf_rev, nsts_ho, nsts_fr, nsts_shr, nsts_hb, nsts_hf, ta_nil, ta_shr, ta_ho, ta_hb, ta_hf, Pu.asn, Pu.asn.asns, Pu.wipeS, Pu.frzS, Pu.frz1S, Pu.bfn, Pu.bmT, Pu.dlf, Pu.kOf, bo_add, bo_sub, Pu.cmpo, Pu.truthy, Pu.isTy, Pu.isN, eq_ii, eq_ss, eq_bb, eq_nn, eq_is, eq_si, eq_ni, eq_in, eq_ns, eq_sn, eq_nb, eq_bn, eq_bs, eq_sb, Pu.item, i_0, i_1, i_2, i_3, i_4, Pu.iter, Pu.okIt, Pu.dOf, Pu.dOfs, List.set_cons_zero, List.set_cons_succ, List.getElem?_cons_zero, List.getElem?_cons_succ, List.length_cons, List.length_nil, Option.bind_some, Option.map_some, Option.isSome_some, Option.bind_none, Option.map_none, Option.getD_some, Bool.not_true, Bool.not_false, Va.str.injEq, Va.int.injEq, Va.bl.injEq, Bool.false_eq_true, Bool.true_and, Bool.and_true, Bool.false_and, Bool.and_false, decide_true, decide_false, if_true, if_false, ite_true, ite_false, reduceCtorEq, and_self, true_and, and_true, c1, c2, Bool.or_false]
      · unfold Row.d
        simp only [turn_ap, e_v, e_k, e_g, e_tup, e_lst, e_dct0, e_bin, e_neg, e_nt, e_an, e_or, e_cmp, e_cmp2, e_call, e_mk, e_meth, e_bi, e_fld, e_ix, e_sl, e_ife, e_isx, e_dl, x_asg, x_par, x_fld, x_sub, x_retN, x_pass, x_ite, x_rse, x_try, x_tryn, x_frz, r_k, r_tup, r_lst, r_bin, r_neg, r_nt, r_an, r_or, r_cmp, r_cmp2, r_call, r_mk, r_meth, r_bi, r_ix, r_sl, r_ife, r_g, r_fld, r_comp, r_compR, r_dl, r_dct0, x_exC, x_exM, x_bm, x_retV, b_nil, b_cons, l_nil, l_cons, a_one, a_cons, o_one, o_cons, p_none, p_some, c_none, c_some, bi_ok, bi_exc, bl_ok, bl_exc, lb_ok, lb_exc, th_ok, th_exc, lt_ok, lt_exc, se_nx, se_rt, se_exc, en_nx, en_rt, en_exc, op_shr, op_fr, of_t, of_f, cur_shr, cur_fr, cur_ho, cur_hb, cur_hf, curs_nil, curs_cons, Pu.frz1, Pu.Fl.free, sh_nil, sh_shr, putAt_ho, putAt_fr, bmf_clr, bmf_clrD, bmf_rev, nsts_ho, nsts_fr, nsts_shr, nsts_hb, nsts_hf, ta_nil, ta_shr, ta_ho, ta_hb, ta_hf, Pu.asn, Pu.asn.asns, Pu.wipeS, Pu.frzS, Pu.frz1S, Pu.bfn, Pu.bmT, Pu.dlf, Pu.kOf, bo_add, bo_sub, Pu.cmpo, Pu.truthy, Pu.isTy, Pu.isN, eq_ii, eq_ss, eq_bb, eq_nn, eq_is, eq_si, eq_ni, eq_in, eq_ns, eq_sn, eq_nb, eq_bn, eq_bs, eq_sb, Pu.item, i_0, i_1, i_2, i_3, i_4, Pu.iter, Pu.okIt, Pu.dOf, Pu.dOfs, List.set_cons_zero, List.set_cons_succ, List.getElem?_cons_zero, List.getElem?_cons_succ, List.length_cons, List.length_nil, Option.bind_some, Option.map_some, Option.isSome_some, Option.bind_none, Option.map_none, Option.getD_some, Bool.not_true, Bool.not_false, Va.str.injEq, Va.int.injEq, Va.bl.injEq, Bool.false_eq_true, Bool.true_and, Bool.and_true, Bool.false_and, Bool.and_false, decide_true, decide_false, if_true, if_false, ite_true, ite_false, reduceCtorEq, and_self, true_and, and_true, c1, Bool.or_false]
    subst hO
    refine ⟨y5', ?_⟩
    rw [x_fr (O1 := O) (d := .lst (R.map Row.d)) (fd := .hb) (l := R.map Row.d) (by simp only [e_v, e_k, e_g, e_tup, e_lst, e_dct0, e_bin, e_neg, e_nt, e_an, e_or, e_cmp, e_cmp2, e_call, e_mk, e_meth, e_bi, e_fld, e_ix, e_sl, e_ife, e_isx, e_dl, x_asg, x_par, x_fld, x_sub, x_retN, x_pass, x_ite, x_rse, x_try, x_tryn, x_frz, r_k, r_tup, r_lst, r_bin, r_neg, r_nt, r_an, r_or, r_cmp, r_cmp2, r_call, r_mk, r_meth, r_bi, r_ix, r_sl, r_ife, r_g, r_fld, r_comp, r_compR, r_dl, r_dct0, x_exC, x_exM, x_bm, x_retV, b_nil, b_cons, l_nil, l_cons, a_one, a_cons, o_one, o_cons, p_none, p_some, c_none, c_some, bi_ok, bi_exc, bl_ok, bl_exc, lb_ok, lb_exc, th_ok, th_exc, lt_ok, lt_exc, se_nx, se_rt, se_exc, en_nx, en_rt, en_exc, op_shr, op_fr, of_t, of_f, cur_shr, cur_fr, cur_ho, cur_hb, cur_hf, curs_nil, curs_cons, Pu.frz1, Pu.Fl.free, sh_nil, sh_shr, putAt_ho, putAt_fr, bmf_clr, bmf_clrD, bmf_rev, nsts_ho, nsts_fr, nsts_shr, nsts_hb, nsts_hf, ta_nil, ta_shr, ta_ho, ta_hb, ta_hf, Pu.asn, Pu.asn.asns, Pu.wipeS, Pu.frzS, Pu.frz1S, Pu.bfn, Pu.bmT, Pu.dlf, Pu.kOf, bo_add, bo_sub, Pu.cmpo, Pu.truthy, Pu.isTy, Pu.isN, eq_ii, eq_ss, eq_bb, eq_nn, eq_is, eq_si, eq_ni, eq_in, eq_ns, eq_sn, eq_nb, eq_bn, eq_bs, eq_sb, Pu.item, i_0, i_1, i_2, i_3, i_4, Pu.iter, Pu.okIt, Pu.dOf, Pu.dOfs, List.set_cons_zero, List.set_cons_succ, List.getElem?_cons_zero, List.getElem?_cons_succ, List.length_cons, List.length_nil, Option.bind_some, Option.map_some, Option.isSome_some, Option.bind_none, Option.map_none, Option.getD_some, Bool.not_true, Bool.not_false, Va.str.injEq, Va.int.injEq, Va.bl.injEq, Bool.false_eq_true, Bool.true_and, Bool.and_true, Bool.false_and, Bool.and_false, decide_true, decide_false, if_true, if_false, ite_true, ite_false, reduceCtorEq, and_self, true_and, and_true]) rfl rfl, stay_hb]
    exact e
  obtain ⟨s', O', e, hO, y3, y4, y5, rfl⟩ := goS_T (enc := D.int) (st := fun _ => true) (f := turnS (cf (k + 1)) (.nm 3) monthB)
    (fun p s O' => O = O' ∧ ∃ y3 y4 y5, s = [.bo (.lst (R.map Row.d)), .sh r.d, .ow (.lst ((p.filter fun m => !(R.any fun x => rival r x m)).map .int)), y3, y4, y5]) (l := span r) (s := [.bo (.lst (R.map Row.d)), .sh r.d, .ow (.lst []), .no, .no, .no]) (O := O) ⟨rfl, .no, .no, .no, rfl⟩ (fun _ _ _ _ => rfl) fun p m q e s O' ⟨e1, y3, y4, y5, es⟩ => by
    subst e1 es
    obtain ⟨y5', e5⟩ := inner m y5 (.lst ((p.filter fun m => !(R.any fun x => rival r x m)).map .int))
    have sl := span_len g
    have lp : p.length ≤ 24 := by
      have := congrArg List.length e
      simp at this
      omega
    have fl : ((p.filter fun m => !(R.any fun x => rival r x m)).map D.int).length < sizeLine := by
      have := List.length_filter_le (fun m => !(R.any fun x => rival r x m)) p
      have := le1000
      rw [List.length_map]
      omega
    have ap := bmf_app (x := .int m) fl
    rw [List.filter_append, List.map_append]
    by_cases c : (R.any fun x => rival r x m) = true
    · refine ⟨_, O, ?_, rfl, .sh (.int m), .sh (.bl false), y5', rfl⟩
      have e0 : [m].filter (fun m => !(R.any fun x => rival r x m)) = [] := by simp [c]
      rw [e0]
      rw [c] at e5
      simp only [turn_ap, monthB, e_v, e_k, e_g, e_tup, e_lst, e_dct0, e_bin, e_neg, e_nt, e_an, e_or, e_cmp, e_cmp2, e_call, e_mk, e_meth, e_bi, e_fld, e_ix, e_sl, e_ife, e_isx, e_dl, x_asg, x_par, x_fld, x_sub, x_retN, x_pass, x_ite, x_rse, x_try, x_tryn, x_frz, r_k, r_tup, r_lst, r_bin, r_neg, r_nt, r_an, r_or, r_cmp, r_cmp2, r_call, r_mk, r_meth, r_bi, r_ix, r_sl, r_ife, r_g, r_fld, r_comp, r_compR, r_dl, r_dct0, x_exC, x_exM, x_bm, x_retV, b_nil, b_cons, l_nil, l_cons, a_one, a_cons, o_one, o_cons, p_none, p_some, c_none, c_some, bi_ok, bi_exc, bl_ok, bl_exc, lb_ok, lb_exc, th_ok, th_exc, lt_ok, lt_exc, se_nx, se_rt, se_exc, en_nx, en_rt, en_exc, op_shr, op_fr, of_t, of_f, cur_shr, cur_fr, cur_ho, cur_hb, cur_hf, curs_nil, curs_cons, Pu.frz1, Pu.Fl.free, sh_nil, sh_shr, putAt_ho, putAt_fr, bmf_clr, bmf_clrD, bmf_rev, nsts_ho, nsts_fr, nsts_shr, nsts_hb, nsts_hf, ta_nil, ta_shr, ta_ho, ta_hb, ta_hf, Pu.asn, Pu.asn.asns, Pu.wipeS, Pu.frzS, Pu.frz1S, Pu.bfn, Pu.bmT, Pu.dlf, Pu.kOf, bo_add, bo_sub, Pu.cmpo, Pu.truthy, Pu.isTy, Pu.isN, eq_ii, eq_ss, eq_bb, eq_nn, eq_is, eq_si, eq_ni, eq_in, eq_ns, eq_sn, eq_nb, eq_bn, eq_bs, eq_sb, Pu.item, i_0, i_1, i_2, i_3, i_4, Pu.iter, Pu.okIt, Pu.dOf, Pu.dOfs, List.set_cons_zero, List.set_cons_succ, List.getElem?_cons_zero, List.getElem?_cons_succ, List.length_cons, List.length_nil, Option.bind_some, Option.map_some, Option.isSome_some, Option.bind_none, Option.map_none, Option.getD_some, Bool.not_true, Bool.not_false, Va.str.injEq, Va.int.injEq, Va.bl.injEq, Bool.false_eq_true, Bool.true_and, Bool.and_true, Bool.false_and, Bool.and_false, decide_true, decide_false, if_true, if_false, ite_true, ite_false, reduceCtorEq, and_self, true_and, and_true, e5, List.map_nil, List.append_nil]
    · have c' : (R.any fun x => rival r x m) = false := by simpa using c
      refine ⟨_, O, ?_, rfl, .sh (.int m), .sh (.bl true), y5', rfl⟩
      have e0 : [m].filter (fun m => !(R.any fun x => rival r x m)) = [m] := by simp [c']
      rw [e0]
      rw [c'] at e5
      simp only [turn_ap, monthB, e_v, e_k, e_g, e_tup, e_lst, e_dct0, e_bin, e_neg, e_nt, e_an, e_or, e_cmp, e_cmp2, e_call, e_mk, e_meth, e_bi, e_fld, e_ix, e_sl, e_ife, e_isx, e_dl, x_asg, x_par, x_fld, x_sub, x_retN, x_pass, x_ite, x_rse, x_try, x_tryn, x_frz, r_k, r_tup, r_lst, r_bin, r_neg, r_nt, r_an, r_or, r_cmp, r_cmp2, r_call, r_mk, r_meth, r_bi, r_ix, r_sl, r_ife, r_g, r_fld, r_comp, r_compR, r_dl, r_dct0, x_exC, x_exM, x_bm, x_retV, b_nil, b_cons, l_nil, l_cons, a_one, a_cons, o_one, o_cons, p_none, p_some, c_none, c_some, bi_ok, bi_exc, bl_ok, bl_exc, lb_ok, lb_exc, th_ok, th_exc, lt_ok, lt_exc, se_nx, se_rt, se_exc, en_nx, en_rt, en_exc, op_shr, op_fr, of_t, of_f, cur_shr, cur_fr, cur_ho, cur_hb, cur_hf, curs_nil, curs_cons, Pu.frz1, Pu.Fl.free, sh_nil, sh_shr, putAt_ho, putAt_fr, bmf_clr, bmf_clrD, bmf_rev, nsts_ho, nsts_fr, nsts_shr, nsts_hb, nsts_hf, ta_nil, ta_shr, ta_ho, ta_hb, ta_hf, Pu.asn, Pu.asn.asns, Pu.wipeS, Pu.frzS, Pu.frz1S, Pu.bfn, Pu.bmT, Pu.dlf, Pu.kOf, bo_add, bo_sub, Pu.cmpo, Pu.truthy, Pu.isTy, Pu.isN, eq_ii, eq_ss, eq_bb, eq_nn, eq_is, eq_si, eq_ni, eq_in, eq_ns, eq_sn, eq_nb, eq_bn, eq_bs, eq_sb, Pu.item, i_0, i_1, i_2, i_3, i_4, Pu.iter, Pu.okIt, Pu.dOf, Pu.dOfs, List.set_cons_zero, List.set_cons_succ, List.getElem?_cons_zero, List.getElem?_cons_succ, List.length_cons, List.length_nil, Option.bind_some, Option.map_some, Option.isSome_some, Option.bind_none, Option.map_none, Option.getD_some, Bool.not_true, Bool.not_false, Va.str.injEq, Va.int.injEq, Va.bl.injEq, Bool.false_eq_true, Bool.true_and, Bool.and_true, Bool.false_and, Bool.and_false, decide_true, decide_false, if_true, if_false, ite_true, ite_false, reduceCtorEq, and_self, true_and, and_true, e5, ap, List.map_cons, List.map_nil]
  subst hO
  have rg := span_rng g
  have c1 := x_frR (C := cf (k + 1)) (t := .nm 3) (es := [(.ix (.v 1) (.k (.int 2))), (.bin .add (.ix (.v 1) (.k (.int 3))) (.k (.int 1)))]) (b := monthB) (s := [.bo (.lst (R.map Row.d)), .sh r.d, .ow (.lst []), .no, .no, .no]) (O := O) (O1 := O) (vs := [(.int r.first, .shr), (.int (r.last + 1), .shr)]) (by unfold Row.d; simp only [e_v, e_k, e_g, e_tup, e_lst, e_dct0, e_bin, e_neg, e_nt, e_an, e_or, e_cmp, e_cmp2, e_call, e_mk, e_meth, e_bi, e_fld, e_ix, e_sl, e_ife, e_isx, e_dl, x_asg, x_par, x_fld, x_sub, x_retN, x_pass, x_ite, x_rse, x_try, x_tryn, x_frz, r_k, r_tup, r_lst, r_bin, r_neg, r_nt, r_an, r_or, r_cmp, r_cmp2, r_call, r_mk, r_meth, r_bi, r_ix, r_sl, r_ife, r_g, r_fld, r_comp, r_compR, r_dl, r_dct0, x_exC, x_exM, x_bm, x_retV, b_nil, b_cons, l_nil, l_cons, a_one, a_cons, o_one, o_cons, p_none, p_some, c_none, c_some, bi_ok, bi_exc, bl_ok, bl_exc, lb_ok, lb_exc, th_ok, th_exc, lt_ok, lt_exc, se_nx, se_rt, se_exc, en_nx, en_rt, en_exc, op_shr, op_fr, of_t, of_f, cur_shr, cur_fr, cur_ho, cur_hb, cur_hf, curs_nil, curs_cons, Pu.frz1, Pu.Fl.free, sh_nil, sh_shr, putAt_ho, putAt_fr, bmf_clr, bmf_clrD, bmf_rev, nsts_ho, nsts_fr, nsts_shr, nsts_hb, nsts_hf, ta_nil, ta_shr, ta_ho, ta_hb, ta_hf, Pu.asn, Pu.asn.asns, Pu.wipeS, Pu.frzS, Pu.frz1S, Pu.bfn, Pu.bmT, Pu.dlf, Pu.kOf, bo_add, bo_sub, Pu.cmpo, Pu.truthy, Pu.isTy, Pu.isN, eq_ii, eq_ss, eq_bb, eq_nn, eq_is, eq_si, eq_ni, eq_in, eq_ns, eq_sn, eq_nb, eq_bn, eq_bs, eq_sb, Pu.item, i_0, i_1, i_2, i_3, i_4, Pu.iter, Pu.okIt, Pu.dOf, Pu.dOfs, List.set_cons_zero, List.set_cons_succ, List.getElem?_cons_zero, List.getElem?_cons_succ, List.length_cons, List.length_nil, Option.bind_some, Option.map_some, Option.isSome_some, Option.bind_none, Option.map_none, Option.getD_some, Bool.not_true, Bool.not_false, Va.str.injEq, Va.int.injEq, Va.bl.injEq, Bool.false_eq_true, Bool.true_and, Bool.and_true, Bool.false_and, Bool.and_false, decide_true, decide_false, if_true, if_false, ite_true, ite_false, reduceCtorEq, and_self, true_and, and_true]) rg
  rw [e] at c1
  unfold monthB at c1
  have hm : ((span r).filter fun m => !(R.any fun x => rival r x m)) = months R r := rfl
  rw [hm] at c1
  simp only [f__law_months, b_f__law_months, Pu.begin_, List.map_cons, List.map_nil, List.drop_nil, List.append_nil, List.nil_append, List.replicate, List.cons_append, e_v, e_k, e_g, e_tup, e_lst, e_dct0, e_bin, e_neg, e_nt, e_an, e_or, e_cmp, e_cmp2, e_call, e_mk, e_meth, e_bi, e_fld, e_ix, e_sl, e_ife, e_isx, e_dl, x_asg, x_par, x_fld, x_sub, x_retN, x_pass, x_ite, x_rse, x_try, x_tryn, x_frz, r_k, r_tup, r_lst, r_bin, r_neg, r_nt, r_an, r_or, r_cmp, r_cmp2, r_call, r_mk, r_meth, r_bi, r_ix, r_sl, r_ife, r_g, r_fld, r_comp, r_compR, r_dl, r_dct0, x_exC, x_exM, x_bm, x_retV, b_nil, b_cons, l_nil, l_cons, a_one, a_cons, o_one, o_cons, p_none, p_some, c_none, c_some, bi_ok, bi_exc, bl_ok, bl_exc, lb_ok, lb_exc, th_ok, th_exc, lt_ok, lt_exc, se_nx, se_rt, se_exc, en_nx, en_rt, en_exc, op_shr, op_fr, of_t, of_f, cur_shr, cur_fr, cur_ho, cur_hb, cur_hf, curs_nil, curs_cons, Pu.frz1, Pu.Fl.free, sh_nil, sh_shr, putAt_ho, putAt_fr, bmf_clr, bmf_clrD, bmf_rev, nsts_ho, nsts_fr, nsts_shr, nsts_hb, nsts_hf, ta_nil, ta_shr, ta_ho, ta_hb, ta_hf, Pu.asn, Pu.asn.asns, Pu.wipeS, Pu.frzS, Pu.frz1S, Pu.bfn, Pu.bmT, Pu.dlf, Pu.kOf, bo_add, bo_sub, Pu.cmpo, Pu.truthy, Pu.isTy, Pu.isN, eq_ii, eq_ss, eq_bb, eq_nn, eq_is, eq_si, eq_ni, eq_in, eq_ns, eq_sn, eq_nb, eq_bn, eq_bs, eq_sb, Pu.item, i_0, i_1, i_2, i_3, i_4, Pu.iter, Pu.okIt, Pu.dOf, Pu.dOfs, List.set_cons_zero, List.set_cons_succ, List.getElem?_cons_zero, List.getElem?_cons_succ, List.length_cons, List.length_nil, Option.bind_some, Option.map_some, Option.isSome_some, Option.bind_none, Option.map_none, Option.getD_some, Bool.not_true, Bool.not_false, Va.str.injEq, Va.int.injEq, Va.bl.injEq, Bool.false_eq_true, Bool.true_and, Bool.and_true, Bool.false_and, Bool.and_false, decide_true, decide_false, if_true, if_false, ite_true, ite_false, reduceCtorEq, and_self, true_and, and_true, c1]
/-! ### a news told -/
theorem new_ok {k : Nat} {s : Slots} {O : Os} : evE (cf (k + 1)) (.mk C_Book []) s O = .ok (.obj O.length) .shr (O ++ [bk []]) := by
  have e : Pu.run Q (k + 1) i_Book_init [.sh (.obj O.length)] (O ++ [⟨C_Book, []⟩]) = .ok .non .shr (O ++ [bk []]) := by
    rw [run_at (d := f_Book_init) rfl rfl]
    have g : (O ++ [(⟨C_Book, []⟩ : Oj)])[O.length]? = some ⟨C_Book, []⟩ := by simp
    have st : (O ++ [(⟨C_Book, []⟩ : Oj)]).set O.length (bk []) = O ++ [bk []] := by simp
    have lk : Pu.lkF F_known ([] : List (Nat × D)) = none := rfl
    have pf : (⟨C_Book, Pu.putF F_known (.dct []) []⟩ : Oj) = bk [] := rfl
    simp only [f_Book_init, b_f_Book_init, Pu.begin_, List.map_cons, List.map_nil, List.drop_nil, List.append_nil, List.nil_append, List.replicate, List.cons_append, e_v, e_k, e_g, e_tup, e_lst, e_dct0, e_bin, e_neg, e_nt, e_an, e_or, e_cmp, e_cmp2, e_call, e_mk, e_meth, e_bi, e_fld, e_ix, e_sl, e_ife, e_isx, e_dl, x_asg, x_par, x_fld, x_sub, x_retN, x_pass, x_ite, x_rse, x_try, x_tryn, x_frz, r_k, r_tup, r_lst, r_bin, r_neg, r_nt, r_an, r_or, r_cmp, r_cmp2, r_call, r_mk, r_meth, r_bi, r_ix, r_sl, r_ife, r_g, r_fld, r_comp, r_compR, r_dl, r_dct0, x_exC, x_exM, x_bm, x_retV, b_nil, b_cons, l_nil, l_cons, a_one, a_cons, o_one, o_cons, p_none, p_some, c_none, c_some, bi_ok, bi_exc, bl_ok, bl_exc, lb_ok, lb_exc, th_ok, th_exc, lt_ok, lt_exc, se_nx, se_rt, se_exc, en_nx, en_rt, en_exc, op_shr, op_fr, of_t, of_f, cur_shr, cur_fr, cur_ho, cur_hb, cur_hf, curs_nil, curs_cons, Pu.frz1, Pu.Fl.free, sh_nil, sh_shr, putAt_ho, putAt_fr, bmf_clr, bmf_clrD, bmf_rev, nsts_ho, nsts_fr, nsts_shr, nsts_hb, nsts_hf, ta_nil, ta_shr, ta_ho, ta_hb, ta_hf, Pu.asn, Pu.asn.asns, Pu.wipeS, Pu.frzS, Pu.frz1S, Pu.bfn, Pu.bmT, Pu.dlf, Pu.kOf, bo_add, bo_sub, Pu.cmpo, Pu.truthy, Pu.isTy, Pu.isN, eq_ii, eq_ss, eq_bb, eq_nn, eq_is, eq_si, eq_ni, eq_in, eq_ns, eq_sn, eq_nb, eq_bn, eq_bs, eq_sb, Pu.item, i_0, i_1, i_2, i_3, i_4, Pu.iter, Pu.okIt, Pu.dOf, Pu.dOfs, List.set_cons_zero, List.set_cons_succ, List.getElem?_cons_zero, List.getElem?_cons_succ, List.length_cons, List.length_nil, Option.bind_some, Option.map_some, Option.isSome_some, Option.bind_none, Option.map_none, Option.getD_some, Bool.not_true, Bool.not_false, Va.str.injEq, Va.int.injEq, Va.bl.injEq, Bool.false_eq_true, Bool.true_and, Bool.and_true, Bool.false_and, Bool.and_false, decide_true, decide_false, if_true, if_false, ite_true, ite_false, reduceCtorEq, and_self, true_and, and_true, g, cl_Book, mut_known, lk, Pu.isFr, Option.isNone_none, pf, st]
    simp [kl_Book, e_v, e_k, e_g, e_tup, e_lst, e_dct0, e_bin, e_neg, e_nt, e_an, e_or, e_cmp, e_cmp2, e_call, e_mk, e_meth, e_bi, e_fld, e_ix, e_sl, e_ife, e_isx, e_dl, x_asg, x_par, x_fld, x_sub, x_retN, x_pass, x_ite, x_rse, x_try, x_tryn, x_frz, r_k, r_tup, r_lst, r_bin, r_neg, r_nt, r_an, r_or, r_cmp, r_cmp2, r_call, r_mk, r_meth, r_bi, r_ix, r_sl, r_ife, r_g, r_fld, r_comp, r_compR, r_dl, r_dct0, x_exC, x_exM, x_bm, x_retV, b_nil, b_cons, l_nil, l_cons, a_one, a_cons, o_one, o_cons, p_none, p_some, c_none, c_some, bi_ok, bi_exc, bl_ok, bl_exc, lb_ok, lb_exc, th_ok, th_exc, lt_ok, lt_exc, se_nx, se_rt, se_exc, en_nx, en_rt, en_exc, op_shr, op_fr, of_t, of_f, cur_shr, cur_fr, cur_ho, cur_hb, cur_hf, curs_nil, curs_cons, Pu.frz1, Pu.Fl.free, sh_nil, sh_shr, putAt_ho, putAt_fr, bmf_clr, bmf_clrD, bmf_rev, nsts_ho, nsts_fr, nsts_shr, nsts_hb, nsts_hf, ta_nil, ta_shr, ta_ho, ta_hb, ta_hf, Pu.asn, Pu.asn.asns, Pu.wipeS, Pu.frzS, Pu.frz1S, Pu.bfn, Pu.bmT, Pu.dlf, Pu.kOf, bo_add, bo_sub, Pu.cmpo, Pu.truthy, Pu.isTy, Pu.isN, eq_ii, eq_ss, eq_bb, eq_nn, eq_is, eq_si, eq_ni, eq_in, eq_ns, eq_sn, eq_nb, eq_bn, eq_bs, eq_sb, Pu.item, i_0, i_1, i_2, i_3, i_4, Pu.iter, Pu.okIt, Pu.dOf, Pu.dOfs, List.set_cons_zero, List.set_cons_succ, List.getElem?_cons_zero, List.getElem?_cons_succ, List.length_cons, List.length_nil, Option.bind_some, Option.map_some, Option.isSome_some, Option.bind_none, Option.map_none, Option.getD_some, Bool.not_true, Bool.not_false, Va.str.injEq, Va.int.injEq, Va.bl.injEq, Bool.false_eq_true, Bool.true_and, Bool.and_true, Bool.false_and, Bool.and_false, decide_true, decide_false, if_true, if_false, ite_true, ite_false, reduceCtorEq, and_self, true_and, and_true]
  simp only [e_v, e_k, e_g, e_tup, e_lst, e_dct0, e_bin, e_neg, e_nt, e_an, e_or, e_cmp, e_cmp2, e_call, e_mk, e_meth, e_bi, e_fld, e_ix, e_sl, e_ife, e_isx, e_dl, x_asg, x_par, x_fld, x_sub, x_retN, x_pass, x_ite, x_rse, x_try, x_tryn, x_frz, r_k, r_tup, r_lst, r_bin, r_neg, r_nt, r_an, r_or, r_cmp, r_cmp2, r_call, r_mk, r_meth, r_bi, r_ix, r_sl, r_ife, r_g, r_fld, r_comp, r_compR, r_dl, r_dct0, x_exC, x_exM, x_bm, x_retV, b_nil, b_cons, l_nil, l_cons, a_one, a_cons, o_one, o_cons, p_none, p_some, c_none, c_some, bi_ok, bi_exc, bl_ok, bl_exc, lb_ok, lb_exc, th_ok, th_exc, lt_ok, lt_exc, se_nx, se_rt, se_exc, en_nx, en_rt, en_exc, op_shr, op_fr, of_t, of_f, cur_shr, cur_fr, cur_ho, cur_hb, cur_hf, curs_nil, curs_cons, Pu.frz1, Pu.Fl.free, sh_nil, sh_shr, putAt_ho, putAt_fr, bmf_clr, bmf_clrD, bmf_rev, nsts_ho, nsts_fr, nsts_shr, nsts_hb, nsts_hf, ta_nil, ta_shr, ta_ho, ta_hb, ta_hf, Pu.asn, Pu.asn.asns, Pu.wipeS, Pu.frzS, Pu.frz1S, Pu.bfn, Pu.bmT, Pu.dlf, Pu.kOf, bo_add, bo_sub, Pu.cmpo, Pu.truthy, Pu.isTy, Pu.isN, eq_ii, eq_ss, eq_bb, eq_nn, eq_is, eq_si, eq_ni, eq_in, eq_ns, eq_sn, eq_nb, eq_bn, eq_bs, eq_sb, Pu.item, i_0, i_1, i_2, i_3, i_4, Pu.iter, Pu.okIt, Pu.dOf, Pu.dOfs, List.set_cons_zero, List.set_cons_succ, List.getElem?_cons_zero, List.getElem?_cons_succ, List.length_cons, List.length_nil, Option.bind_some, Option.map_some, Option.isSome_some, Option.bind_none, Option.map_none, Option.getD_some, Bool.not_true, Bool.not_false, Va.str.injEq, Va.int.injEq, Va.bl.injEq, Bool.false_eq_true, Bool.true_and, Bool.and_true, Bool.false_and, Bool.and_false, decide_true, decide_false, if_true, if_false, ite_true, ite_false, reduceCtorEq, and_self, true_and, and_true, cl_Book, in_Book, e]
theorem told_set {O : Os} {b : Nat} {x y : Oj} (h : O[b]? = some y) : (O.set b x)[b]? = some x := List.getElem?_set_self (List.getElem?_eq_some_iff.mp h).1
theorem any_told {R : List Row} {r : Row} {m : Int} : ((rivs r (byNum (R ++ [r]))).filter fun x => decide (x.first ≤ m) && decide (m ≤ x.last)).isEmpty = !(R.any fun x => rival r x m) := by
  rw [Bool.eq_iff_iff, List.isEmpty_iff, List.filter_eq_nil_iff]
  simp only [Bool.not_eq_true', List.any_eq_false]
  constructor
  · intro h x hx z
    unfold rival at z
    simp only [Bool.and_eq_true, decide_eq_true_eq] at z
    refine h x ?_ (by simp [z.2.1, z.2.2.1])
    unfold rivs
    rw [List.mem_filter, byNum_mem]
    exact ⟨by simp [hx], by simp [z.1, z.2.2.2]⟩
  · intro h x hx z
    unfold rivs at hx
    rw [List.mem_filter, byNum_mem] at hx
    simp only [Bool.and_eq_true, decide_eq_true_eq] at hx z
    rcases List.mem_append.mp hx.1 with hr | hr
    · refine h x hr ?_
      unfold rival
      simp [hx.2.1, hx.2.2, z.1, z.2]
    · rw [List.mem_singleton.mp hr] at hx
      exact absurd hx.2.1 (by omega)
end K82
set_option Elab.async false
set_option linter.all false
set_option maxRecDepth 100000
set_option maxHeartbeats 4000000
namespace K82
open Pu
open Dl (Va Ex Sm Tg Fn sortV leV srtOk)
open PySem (Str sizeLine PyData)
theorem rivals_comp {k b : Nat} {O : Os} {L R : List Row} {r : Row} {s : Slots} (h : O[b]? = some (bk R)) (nd : numsNd R) (hl : R.length ≤ 100) (g : r.Ok) (ok : ∀ x ∈ R, x.Ok) (hs : s.length = 12) (h0 : s[0]? = some (.sh (.obj b))) (h1 : s[1]? = some (.sh (.int r.num))) (h7 : s[7]? = some (.sh r.fact.mat)) :
    evE (cf (k + 1)) (.comp (.v 11) (.nm 11) (.meth M_told (.v 0) []) (some (.an [(.cmp .gt (.ix (.v 11) (.k (.int 0))) (.v 1)), (.cmp .eq (.call i_matter [(.ix (.v 11) (.k (.int 4)))]) (.v 7))])) [11]) s O = .ok (.lst ((rivs r (byNum R)).map Row.d)) .fr O := by
  have td := told_ok (k := k) h nd hl
  have e0 : evE (cf (k + 1)) (.meth M_told (.v 0) []) s O = .ok (.lst ((byNum R).map Row.d)) .fr O := by
    simp only [e_v, e_k, e_g, e_tup, e_lst, e_dct0, e_bin, e_neg, e_nt, e_an, e_or, e_cmp, e_cmp2, e_call, e_mk, e_meth, e_bi, e_fld, e_ix, e_sl, e_ife, e_isx, e_dl, x_asg, x_par, x_fld, x_sub, x_retN, x_pass, x_ite, x_rse, x_try, x_tryn, x_frz, r_k, r_tup, r_lst, r_bin, r_neg, r_nt, r_an, r_or, r_cmp, r_cmp2, r_call, r_mk, r_meth, r_bi, r_ix, r_sl, r_ife, r_g, r_fld, r_comp, r_compR, r_dl, r_dct0, x_exC, x_exM, x_bm, x_retV, b_nil, b_cons, l_nil, l_cons, a_one, a_cons, o_one, o_cons, p_none, p_some, c_none, c_some, bi_ok, bi_exc, bl_ok, bl_exc, lb_ok, lb_exc, th_ok, th_exc, lt_ok, lt_exc, se_nx, se_rt, se_exc, en_nx, en_rt, en_exc, op_shr, op_fr, of_t, of_f, cur_shr, cur_fr, cur_ho, cur_hb, cur_hf, curs_nil, curs_cons, Pu.frz1, Pu.Fl.free, sh_nil, sh_shr, putAt_ho, putAt_fr, bmf_clr, bmf_clrD, bmf_rev, nsts_ho, nsts_fr, nsts_shr, nsts_hb, nsts_hf, ta_nil, ta_shr, ta_ho, ta_hb, ta_hf, Pu.asn, Pu.asn.asns, Pu.wipeS, Pu.frzS, Pu.frz1S, Pu.bfn, Pu.bmT, Pu.dlf, Pu.kOf, bo_add, bo_sub, Pu.cmpo, Pu.truthy, Pu.isTy, Pu.isN, eq_ii, eq_ss, eq_bb, eq_nn, eq_is, eq_si, eq_ni, eq_in, eq_ns, eq_sn, eq_nb, eq_bn, eq_bs, eq_sb, Pu.item, i_0, i_1, i_2, i_3, i_4, Pu.iter, Pu.okIt, Pu.dOf, Pu.dOfs, List.set_cons_zero, List.set_cons_succ, List.getElem?_cons_zero, List.getElem?_cons_succ, List.length_cons, List.length_nil, Option.bind_some, Option.map_some, Option.isSome_some, Option.bind_none, Option.map_none, Option.getD_some, Bool.not_true, Bool.not_false, Va.str.injEq, Va.int.injEq, Va.bl.injEq, Bool.false_eq_true, Bool.true_and, Bool.and_true, Bool.false_and, Bool.and_false, decide_true, decide_false, if_true, if_false, ite_true, ite_false, reduceCtorEq, and_self, true_and, and_true, h0, h, bk_c, cl_Book, ml_Book_told, td]
  have gg := goC_filT (enc := Row.d) (st := fun _ => true) (f := turnC (cf (k + 1)) (.nm 11) (some (.an [(.cmp .gt (.ix (.v 11) (.k (.int 0))) (.v 1)), (.cmp .eq (.call i_matter [(.ix (.v 11) (.k (.int 4)))]) (.v 7))])) (.v 11) [11] s) (c := fun x => decide (r.num < x.num) && decide (x.fact.about = r.fact.about)) (l := byNum R) (O := O) rfl fun x hx => by
    have hx := byNum_mem.mp hx
    have lm := matter_ok (k := k) (O := O) (f := x.fact)
    have me := mat_eq (ok x hx).fact g.fact
    have g11 : ((s.set 11 .no).set 11 (.sh x.d))[11]? = some (.sh x.d) := List.getElem?_set_self (by rw [List.length_set]; omega)
    have g1 : ((s.set 11 .no).set 11 (.sh x.d))[1]? = some (.sh (.int r.num)) := by
      rw [List.getElem?_set_ne (by decide), List.getElem?_set_ne (by decide)]
      exact h1
    have g7 : ((s.set 11 .no).set 11 (.sh x.d))[7]? = some (.sh r.fact.mat) := by
      rw [List.getElem?_set_ne (by decide), List.getElem?_set_ne (by decide)]
      exact h7
    rw [turnC_ap]
    by_cases c1 : r.num < x.num
    · by_cases c2 : x.fact.about = r.fact.about
      · rw [decide_eq_true c2] at me
        unfold Row.d at g11 g1 g7 ⊢
        simp only [e_v, e_k, e_g, e_tup, e_lst, e_dct0, e_bin, e_neg, e_nt, e_an, e_or, e_cmp, e_cmp2, e_call, e_mk, e_meth, e_bi, e_fld, e_ix, e_sl, e_ife, e_isx, e_dl, x_asg, x_par, x_fld, x_sub, x_retN, x_pass, x_ite, x_rse, x_try, x_tryn, x_frz, r_k, r_tup, r_lst, r_bin, r_neg, r_nt, r_an, r_or, r_cmp, r_cmp2, r_call, r_mk, r_meth, r_bi, r_ix, r_sl, r_ife, r_g, r_fld, r_comp, r_compR, r_dl, r_dct0, x_exC, x_exM, x_bm, x_retV, b_nil, b_cons, l_nil, l_cons, a_one, a_cons, o_one, o_cons, p_none, p_some, c_none, c_some, bi_ok, bi_exc, bl_ok, bl_exc, lb_ok, lb_exc, th_ok, th_exc, lt_ok, lt_exc, se_nx, se_rt, se_exc, en_nx, en_rt, en_exc, op_shr, op_fr, of_t, of_f, cur_shr, cur_fr, cur_ho, cur_hb, cur_hf, curs_nil, curs_cons, Pu.frz1, Pu.Fl.free, sh_nil, sh_shr, putAt_ho, putAt_fr, bmf_clr, bmf_clrD, bmf_rev, nsts_ho, nsts_fr, nsts_shr, nsts_hb, nsts_hf, ta_nil, ta_shr, ta_ho, ta_hb, ta_hf, Pu.asn, Pu.asn.asns, Pu.wipeS, Pu.frzS, Pu.frz1S, Pu.bfn, Pu.bmT, Pu.dlf, Pu.kOf, bo_add, bo_sub, Pu.cmpo, Pu.truthy, Pu.isTy, Pu.isN, eq_ii, eq_ss, eq_bb, eq_nn, eq_is, eq_si, eq_ni, eq_in, eq_ns, eq_sn, eq_nb, eq_bn, eq_bs, eq_sb, Pu.item, i_0, i_1, i_2, i_3, i_4, Pu.iter, Pu.okIt, Pu.dOf, Pu.dOfs, List.set_cons_zero, List.set_cons_succ, List.getElem?_cons_zero, List.getElem?_cons_succ, List.length_cons, List.length_nil, Option.bind_some, Option.map_some, Option.isSome_some, Option.bind_none, Option.map_none, Option.getD_some, Bool.not_true, Bool.not_false, Va.str.injEq, Va.int.injEq, Va.bl.injEq, Bool.false_eq_true, Bool.true_and, Bool.and_true, Bool.false_and, Bool.and_false, decide_true, decide_false, if_true, if_false, ite_true, ite_false, reduceCtorEq, and_self, true_and, and_true, c1, c2, g11, g1, g7, lm, me]
      · rw [decide_eq_false c2] at me
        unfold Row.d at g11 g1 g7 ⊢
        simp only [e_v, e_k, e_g, e_tup, e_lst, e_dct0, e_bin, e_neg, e_nt, e_an, e_or, e_cmp, e_cmp2, e_call, e_mk, e_meth, e_bi, e_fld, e_ix, e_sl, e_ife, e_isx, e_dl, x_asg, x_par, x_fld, x_sub, x_retN, x_pass, x_ite, x_rse, x_try, x_tryn, x_frz, r_k, r_tup, r_lst, r_bin, r_neg, r_nt, r_an, r_or, r_cmp, r_cmp2, r_call, r_mk, r_meth, r_bi, r_ix, r_sl, r_ife, r_g, r_fld, r_comp, r_compR, r_dl, r_dct0, x_exC, x_exM, x_bm, x_retV, b_nil, b_cons, l_nil, l_cons, a_one, a_cons, o_one, o_cons, p_none, p_some, c_none, c_some, bi_ok, bi_exc, bl_ok, bl_exc, lb_ok, lb_exc, th_ok, th_exc, lt_ok, lt_exc, se_nx, se_rt, se_exc, en_nx, en_rt, en_exc, op_shr, op_fr, of_t, of_f, cur_shr, cur_fr, cur_ho, cur_hb, cur_hf, curs_nil, curs_cons, Pu.frz1, Pu.Fl.free, sh_nil, sh_shr, putAt_ho, putAt_fr, bmf_clr, bmf_clrD, bmf_rev, nsts_ho, nsts_fr, nsts_shr, nsts_hb, nsts_hf, ta_nil, ta_shr, ta_ho, ta_hb, ta_hf, Pu.asn, Pu.asn.asns, Pu.wipeS, Pu.frzS, Pu.frz1S, Pu.bfn, Pu.bmT, Pu.dlf, Pu.kOf, bo_add, bo_sub, Pu.cmpo, Pu.truthy, Pu.isTy, Pu.isN, eq_ii, eq_ss, eq_bb, eq_nn, eq_is, eq_si, eq_ni, eq_in, eq_ns, eq_sn, eq_nb, eq_bn, eq_bs, eq_sb, Pu.item, i_0, i_1, i_2, i_3, i_4, Pu.iter, Pu.okIt, Pu.dOf, Pu.dOfs, List.set_cons_zero, List.set_cons_succ, List.getElem?_cons_zero, List.getElem?_cons_succ, List.length_cons, List.length_nil, Option.bind_some, Option.map_some, Option.isSome_some, Option.bind_none, Option.map_none, Option.getD_some, Bool.not_true, Bool.not_false, Va.str.injEq, Va.int.injEq, Va.bl.injEq, Bool.false_eq_true, Bool.true_and, Bool.and_true, Bool.false_and, Bool.and_false, decide_true, decide_false, if_true, if_false, ite_true, ite_false, reduceCtorEq, and_self, true_and, and_true, c1, c2, g11, g1, g7, lm, me]
    · unfold Row.d at g11 g1 g7 ⊢
      simp only [e_v, e_k, e_g, e_tup, e_lst, e_dct0, e_bin, e_neg, e_nt, e_an, e_or, e_cmp, e_cmp2, e_call, e_mk, e_meth, e_bi, e_fld, e_ix, e_sl, e_ife, e_isx, e_dl, x_asg, x_par, x_fld, x_sub, x_retN, x_pass, x_ite, x_rse, x_try, x_tryn, x_frz, r_k, r_tup, r_lst, r_bin, r_neg, r_nt, r_an, r_or, r_cmp, r_cmp2, r_call, r_mk, r_meth, r_bi, r_ix, r_sl, r_ife, r_g, r_fld, r_comp, r_compR, r_dl, r_dct0, x_exC, x_exM, x_bm, x_retV, b_nil, b_cons, l_nil, l_cons, a_one, a_cons, o_one, o_cons, p_none, p_some, c_none, c_some, bi_ok, bi_exc, bl_ok, bl_exc, lb_ok, lb_exc, th_ok, th_exc, lt_ok, lt_exc, se_nx, se_rt, se_exc, en_nx, en_rt, en_exc, op_shr, op_fr, of_t, of_f, cur_shr, cur_fr, cur_ho, cur_hb, cur_hf, curs_nil, curs_cons, Pu.frz1, Pu.Fl.free, sh_nil, sh_shr, putAt_ho, putAt_fr, bmf_clr, bmf_clrD, bmf_rev, nsts_ho, nsts_fr, nsts_shr, nsts_hb, nsts_hf, ta_nil, ta_shr, ta_ho, ta_hb, ta_hf, Pu.asn, Pu.asn.asns, Pu.wipeS, Pu.frzS, Pu.frz1S, Pu.bfn, Pu.bmT, Pu.dlf, Pu.kOf, bo_add, bo_sub, Pu.cmpo, Pu.truthy, Pu.isTy, Pu.isN, eq_ii, eq_ss, eq_bb, eq_nn, eq_is, eq_si, eq_ni, eq_in, eq_ns, eq_sn, eq_nb, eq_bn, eq_bs, eq_sb, Pu.item, i_0, i_1, i_2, i_3, i_4, Pu.iter, Pu.okIt, Pu.dOf, Pu.dOfs, List.set_cons_zero, List.set_cons_succ, List.getElem?_cons_zero, List.getElem?_cons_succ, List.length_cons, List.length_nil, Option.bind_some, Option.map_some, Option.isSome_some, Option.bind_none, Option.map_none, Option.getD_some, Bool.not_true, Bool.not_false, Va.str.injEq, Va.int.injEq, Va.bl.injEq, Bool.false_eq_true, Bool.true_and, Bool.and_true, Bool.false_and, Bool.and_false, decide_true, decide_false, if_true, if_false, ite_true, ite_false, reduceCtorEq, and_self, true_and, and_true, c1, g11, g1, g7]
  have ec := e_comp (C := cf (k + 1)) (t := .nm 11) (it := .meth M_told (.v 0) []) (cond := some (.an [(.cmp .gt (.ix (.v 11) (.k (.int 0))) (.v 1)), (.cmp .eq (.call i_matter [(.ix (.v 11) (.k (.int 4)))]) (.v 7))])) (own := [11]) (elt := .v 11) (s := s) (O := O) (O1 := O) (d := .lst ((byNum R).map Row.d)) (fd := .fr) (l := (byNum R).map Row.d) e0 rfl (rows_len hl) gg
  exact ec
theorem covers_comp {k : Nat} {O : Os} {L : List Row} {m : Int} {s : Slots} (hl : L.length ≤ 100) (hs : s.length = 12) (h8 : s[8]? = some (.ow (.lst (L.map Row.d)))) (h10 : s[10]? = some (.sh (.int m))) :
    evE (cf k) (.comp (.v 11) (.nm 11) (.v 8) (some (.cmp2 .le .le (.ix (.v 11) (.k (.int 2))) (.v 10) (.ix (.v 11) (.k (.int 3))))) [11]) s O = .ok (.lst ((L.filter fun x => decide (x.first ≤ m) && decide (m ≤ x.last)).map Row.d)) .fr O := by
  have gg := goC_filT (enc := Row.d) (st := fun _ => true) (f := turnC (cf k) (.nm 11) (some (.cmp2 .le .le (.ix (.v 11) (.k (.int 2))) (.v 10) (.ix (.v 11) (.k (.int 3))))) (.v 11) [11] s) (c := fun x => decide (x.first ≤ m) && decide (m ≤ x.last)) (l := L) (O := O) rfl fun x hx => by
    have g11 : ((s.set 11 .no).set 11 (.sh x.d))[11]? = some (.sh x.d) := List.getElem?_set_self (by rw [List.length_set]; omega)
    have g10 : ((s.set 11 .no).set 11 (.sh x.d))[10]? = some (.sh (.int m)) := by
      rw [List.getElem?_set_ne (by decide), List.getElem?_set_ne (by decide)]
      exact h10
    rw [turnC_ap]
    by_cases c1 : x.first ≤ m
    · by_cases c2 : m ≤ x.last
      · unfold Row.d at g11 g10 ⊢
        simp only [e_v, e_k, e_g, e_tup, e_lst, e_dct0, e_bin, e_neg, e_nt, e_an, e_or, e_cmp, e_cmp2, e_call, e_mk, e_meth, e_bi, e_fld, e_ix, e_sl, e_ife, e_isx, e_dl, x_asg, x_par, x_fld, x_sub, x_retN, x_pass, x_ite, x_rse, x_try, x_tryn, x_frz, r_k, r_tup, r_lst, r_bin, r_neg, r_nt, r_an, r_or, r_cmp, r_cmp2, r_call, r_mk, r_meth, r_bi, r_ix, r_sl, r_ife, r_g, r_fld, r_comp, r_compR, r_dl, r_dct0, x_exC, x_exM, x_bm, x_retV, b_nil, b_cons, l_nil, l_cons, a_one, a_cons, o_one, o_cons, p_none, p_some, c_none, c_some, bi_ok, bi_exc, bl_ok, bl_exc, lb_ok, lb_exc, th_ok, th_exc, lt_ok, lt_exc, se_nx, se_rt, se_exc, en_nx, en_rt, en_exc, op_shr, op_fr, of_t, of_f, cur_shr, cur_fr, cur_ho, cur_hb, cur_hf, curs_nil, curs_cons, Pu.frz1, Pu.Fl.free, sh_nil, sh_shr, putAt_ho, putAt_fr, bmf_clr, bmf_clrD, bmf_rev, nsts_ho, nsts_fr, nsts_shr, nsts_hb, nsts_hf, ta_nil, ta_shr, ta_ho, ta_hb, ta_hf, Pu.asn, Pu.asn.asns, Pu.wipeS, Pu.frzS, Pu.frz1S, Pu.bfn, Pu.bmT, Pu.dlf, Pu.kOf, bo_add, bo_sub, Pu.cmpo, Pu.truthy, Pu.isTy, Pu.isN, eq_ii, eq_ss, eq_bb, eq_nn, eq_is, eq_si, eq_ni, eq_in, eq_ns, eq_sn, eq_nb, eq_bn, eq_bs, eq_sb, Pu.item, i_0, i_1, i_2, i_3, i_4, Pu.iter, Pu.okIt, Pu.dOf, Pu.dOfs, List.set_cons_zero, List.set_cons_succ, List.getElem?_cons_zero, List.getElem?_cons_succ, List.length_cons, List.length_nil, Option.bind_some, Option.map_some, Option.isSome_some, Option.bind_none, Option.map_none, Option.getD_some, Bool.not_true, Bool.not_false, Va.str.injEq, Va.int.injEq, Va.bl.injEq, Bool.false_eq_true, Bool.true_and, Bool.and_true, Bool.false_and, Bool.and_false, decide_true, decide_false, if_true, if_false, ite_true, ite_false, reduceCtorEq, and_self, true_and, and_true, c1, c2, g11, g10]
      · unfold Row.d at g11 g10 ⊢
        simp only [e_v, e_k, e_g, e_tup, e_lst, e_dct0, e_bin, e_neg, e_nt, e_an, e_or, e_cmp, e_cmp2, e_call, e_mk, e_meth, e_bi, e_fld, e_ix, e_sl, e_ife, e_isx, e_dl, x_asg, x_par, x_fld, x_sub, x_retN, x_pass, x_ite, x_rse, x_try, x_tryn, x_frz, r_k, r_tup, r_lst, r_bin, r_neg, r_nt, r_an, r_or, r_cmp, r_cmp2, r_call, r_mk, r_meth, r_bi, r_ix, r_sl, r_ife, r_g, r_fld, r_comp, r_compR, r_dl, r_dct0, x_exC, x_exM, x_bm, x_retV, b_nil, b_cons, l_nil, l_cons, a_one, a_cons, o_one, o_cons, p_none, p_some, c_none, c_some, bi_ok, bi_exc, bl_ok, bl_exc, lb_ok, lb_exc, th_ok, th_exc, lt_ok, lt_exc, se_nx, se_rt, se_exc, en_nx, en_rt, en_exc, op_shr, op_fr, of_t, of_f, cur_shr, cur_fr, cur_ho, cur_hb, cur_hf, curs_nil, curs_cons, Pu.frz1, Pu.Fl.free, sh_nil, sh_shr, putAt_ho, putAt_fr, bmf_clr, bmf_clrD, bmf_rev, nsts_ho, nsts_fr, nsts_shr, nsts_hb, nsts_hf, ta_nil, ta_shr, ta_ho, ta_hb, ta_hf, Pu.asn, Pu.asn.asns, Pu.wipeS, Pu.frzS, Pu.frz1S, Pu.bfn, Pu.bmT, Pu.dlf, Pu.kOf, bo_add, bo_sub, Pu.cmpo, Pu.truthy, Pu.isTy, Pu.isN, eq_ii, eq_ss, eq_bb, eq_nn, eq_is, eq_si, eq_ni, eq_in, eq_ns, eq_sn, eq_nb, eq_bn, eq_bs, eq_sb, Pu.item, i_0, i_1, i_2, i_3, i_4, Pu.iter, Pu.okIt, Pu.dOf, Pu.dOfs, List.set_cons_zero, List.set_cons_succ, List.getElem?_cons_zero, List.getElem?_cons_succ, List.length_cons, List.length_nil, Option.bind_some, Option.map_some, Option.isSome_some, Option.bind_none, Option.map_none, Option.getD_some, Bool.not_true, Bool.not_false, Va.str.injEq, Va.int.injEq, Va.bl.injEq, Bool.false_eq_true, Bool.true_and, Bool.and_true, Bool.false_and, Bool.and_false, decide_true, decide_false, if_true, if_false, ite_true, ite_false, reduceCtorEq, and_self, true_and, and_true, c1, c2, g11, g10]
    · unfold Row.d at g11 g10 ⊢
      simp only [e_v, e_k, e_g, e_tup, e_lst, e_dct0, e_bin, e_neg, e_nt, e_an, e_or, e_cmp, e_cmp2, e_call, e_mk, e_meth, e_bi, e_fld, e_ix, e_sl, e_ife, e_isx, e_dl, x_asg, x_par, x_fld, x_sub, x_retN, x_pass, x_ite, x_rse, x_try, x_tryn, x_frz, r_k, r_tup, r_lst, r_bin, r_neg, r_nt, r_an, r_or, r_cmp, r_cmp2, r_call, r_mk, r_meth, r_bi, r_ix, r_sl, r_ife, r_g, r_fld, r_comp, r_compR, r_dl, r_dct0, x_exC, x_exM, x_bm, x_retV, b_nil, b_cons, l_nil, l_cons, a_one, a_cons, o_one, o_cons, p_none, p_some, c_none, c_some, bi_ok, bi_exc, bl_ok, bl_exc, lb_ok, lb_exc, th_ok, th_exc, lt_ok, lt_exc, se_nx, se_rt, se_exc, en_nx, en_rt, en_exc, op_shr, op_fr, of_t, of_f, cur_shr, cur_fr, cur_ho, cur_hb, cur_hf, curs_nil, curs_cons, Pu.frz1, Pu.Fl.free, sh_nil, sh_shr, putAt_ho, putAt_fr, bmf_clr, bmf_clrD, bmf_rev, nsts_ho, nsts_fr, nsts_shr, nsts_hb, nsts_hf, ta_nil, ta_shr, ta_ho, ta_hb, ta_hf, Pu.asn, Pu.asn.asns, Pu.wipeS, Pu.frzS, Pu.frz1S, Pu.bfn, Pu.bmT, Pu.dlf, Pu.kOf, bo_add, bo_sub, Pu.cmpo, Pu.truthy, Pu.isTy, Pu.isN, eq_ii, eq_ss, eq_bb, eq_nn, eq_is, eq_si, eq_ni, eq_in, eq_ns, eq_sn, eq_nb, eq_bn, eq_bs, eq_sb, Pu.item, i_0, i_1, i_2, i_3, i_4, Pu.iter, Pu.okIt, Pu.dOf, Pu.dOfs, List.set_cons_zero, List.set_cons_succ, List.getElem?_cons_zero, List.getElem?_cons_succ, List.length_cons, List.length_nil, Option.bind_some, Option.map_some, Option.isSome_some, Option.bind_none, Option.map_none, Option.getD_some, Bool.not_true, Bool.not_false, Va.str.injEq, Va.int.injEq, Va.bl.injEq, Bool.false_eq_true, Bool.true_and, Bool.and_true, Bool.false_and, Bool.and_false, decide_true, decide_false, if_true, if_false, ite_true, ite_false, reduceCtorEq, and_self, true_and, and_true, c1, g11, g10]
  exact e_comp (C := cf k) (t := .nm 11) (it := .v 8) (own := [11]) (elt := .v 11) (s := s) (O := O) (O1 := O) (d := .lst (L.map Row.d)) (fd := .ho) (l := L.map Row.d) (by simp only [e_v, e_k, e_g, e_tup, e_lst, e_dct0, e_bin, e_neg, e_nt, e_an, e_or, e_cmp, e_cmp2, e_call, e_mk, e_meth, e_bi, e_fld, e_ix, e_sl, e_ife, e_isx, e_dl, x_asg, x_par, x_fld, x_sub, x_retN, x_pass, x_ite, x_rse, x_try, x_tryn, x_frz, r_k, r_tup, r_lst, r_bin, r_neg, r_nt, r_an, r_or, r_cmp, r_cmp2, r_call, r_mk, r_meth, r_bi, r_ix, r_sl, r_ife, r_g, r_fld, r_comp, r_compR, r_dl, r_dct0, x_exC, x_exM, x_bm, x_retV, b_nil, b_cons, l_nil, l_cons, a_one, a_cons, o_one, o_cons, p_none, p_some, c_none, c_some, bi_ok, bi_exc, bl_ok, bl_exc, lb_ok, lb_exc, th_ok, th_exc, lt_ok, lt_exc, se_nx, se_rt, se_exc, en_nx, en_rt, en_exc, op_shr, op_fr, of_t, of_f, cur_shr, cur_fr, cur_ho, cur_hb, cur_hf, curs_nil, curs_cons, Pu.frz1, Pu.Fl.free, sh_nil, sh_shr, putAt_ho, putAt_fr, bmf_clr, bmf_clrD, bmf_rev, nsts_ho, nsts_fr, nsts_shr, nsts_hb, nsts_hf, ta_nil, ta_shr, ta_ho, ta_hb, ta_hf, Pu.asn, Pu.asn.asns, Pu.wipeS, Pu.frzS, Pu.frz1S, Pu.bfn, Pu.bmT, Pu.dlf, Pu.kOf, bo_add, bo_sub, Pu.cmpo, Pu.truthy, Pu.isTy, Pu.isN, eq_ii, eq_ss, eq_bb, eq_nn, eq_is, eq_si, eq_ni, eq_in, eq_ns, eq_sn, eq_nb, eq_bn, eq_bs, eq_sb, Pu.item, i_0, i_1, i_2, i_3, i_4, Pu.iter, Pu.okIt, Pu.dOf, Pu.dOfs, List.set_cons_zero, List.set_cons_succ, List.getElem?_cons_zero, List.getElem?_cons_succ, List.length_cons, List.length_nil, Option.bind_some, Option.map_some, Option.isSome_some, Option.bind_none, Option.map_none, Option.getD_some, Bool.not_true, Bool.not_false, Va.str.injEq, Va.int.injEq, Va.bl.injEq, Bool.false_eq_true, Bool.true_and, Bool.and_true, Bool.false_and, Bool.and_false, decide_true, decide_false, if_true, if_false, ite_true, ite_false, reduceCtorEq, and_self, true_and, and_true, h8]) rfl (by have := le1000; rw [List.length_map]; omega) gg
def tellB : List Sm := [.ite (.cmp .eq (.comp (.v 11) (.nm 11) (.v 8) (some (.cmp2 .le .le (.ix (.v 11) (.k (.int 2))) (.v 10) (.ix (.v 11) (.k (.int 3))))) [11]) (.lst [])) [.ex (.bm .append (.v 9) [(.v 10)])] []]
theorem tell_ok {k b : Nat} {O : Os} {R : List Row} {r : Row} (h : O[b]? = some (bk R)) (nd : numsNd (R ++ [r])) (hl : R.length < 60) (g : r.Ok) (ok : ∀ x ∈ R, x.Ok) : Pu.run Q (k + 6) i_Book_tell [.sh (.obj b), .sh (.int r.num), .sh (.int r.heard), .sh (.int r.first), .sh (.int r.last), .sh r.fact.d] O =
    .ok (.lst ((months R r).map .int)) .fr (O.set b (bk (R ++ [r]))) := by
  rw [run_at (d := f_Book_tell) rfl rfl]
  have nw := news_ok (k := k) (O := O) g
  have fb := fld_bk h
  have nn : r.num ∉ R.map Row.num := fun z => by
    unfold numsNd at nd
    rw [List.map_append, List.nodup_append] at nd
    exact nd.2.2 _ z _ (by simp) rfl
  have hO := told_set (x := bk (R ++ [r])) h
  have ok2 : ∀ x ∈ R ++ [r], x.Ok := fun x hx => by
    rcases List.mem_append.mp hx with hx | hx
    · exact ok x hx
    · rw [List.mem_singleton.mp hx]; exact g
  have i1 : ∀ gl, inn gl (.int r.num) (.dct (R.map ent)) = some false := fun gl => by
    unfold inn keyOf
    dsimp only
    rw [if_pos kfit_ent, dget_ent_none nn]
    rfl
  have l60 : ¬ ((R.map ent).length : Int) = 60 := by rw [List.length_map]; omega
  have su : ∀ gl, subU gl (keyOf (.int r.num)) r.d (.dct (R.map ent)) = some (.dct ((R ++ [r]).map ent)) := fun gl => by
    rw [← dput_ent nn]
    exact subU_ok kfit_ent (by have := le1000; rw [List.length_map]; omega)
  have lk : Pu.lkF F_known (bk R).fs = some (.dct (R.map ent)) := rfl
  have pf : (⟨(bk R).c, Pu.putF F_known (.dct ((R ++ [r]).map ent)) (bk R).fs⟩ : Oj) = bk (R ++ [r]) := rfl
  have no : isOwn r.d = false := rfl
  have pa : ∀ (s : Slots) (o : Ex) (x : D) (gl : List Va), putAt (cf (k + 5)) s O o x (.hf b F_known) (subU gl (keyOf (.int r.num)) r.d) = .nx s (O.set b (bk (R ++ [r]))) := fun s o x gl => by
    simp only [putAt_hf, nst_known, Bool.false_eq_true, if_false, h, lk, su, pf]
  have mt := matter_ok (k := k + 4) (O := O.set b (bk (R ++ [r]))) (f := r.fact)
  have rc := rivals_comp (k := k + 4) (L := R) (s := [.sh (.obj b), .sh (.int r.num), .sh (.int r.heard), .sh (.int r.first), .sh (.int r.last), .sh r.fact.d, .sh r.d, .sh r.fact.mat, .no, .no, .no, .no]) hO nd (by simp; omega) g ok2 rfl rfl rfl rfl
  have lr : (rivs r (byNum (R ++ [r]))).length ≤ 100 := by
    have := List.length_filter_le (fun x => decide (r.num < x.num) && decide (x.fact.about = r.fact.about)) (byNum (R ++ [r]))
    rw [(byNum_perm _).length_eq] at this
    simp at this
    unfold rivs
    omega
  have okr : ∀ (m : Int), ∀ x ∈ (rivs r (byNum (R ++ [r]))).filter (fun x => decide (x.first ≤ m) && decide (m ≤ x.last)), x.Ok := fun m x hx => ok2 x (byNum_mem.mp (List.mem_filter.mp (List.mem_filter.mp hx).1).1)
  have at_m := fun m => any_told (R := R) (r := r) (m := m)
  generalize O.set b (bk (R ++ [r])) = O2 at *
  generalize rivs r (byNum (R ++ [r])) = V at *
  obtain ⟨s', O', e, hO3, y10, rfl⟩ := goS_T (enc := D.int) (st := fun _ => true) (f := turnS (cf (k + 5)) (.nm 10) tellB)
    (fun p s O' => O2 = O' ∧ ∃ y10, s = [.sh (.obj b), .sh (.int r.num), .sh (.int r.heard), .sh (.int r.first), .sh (.int r.last), .sh r.fact.d, .sh r.d, .sh r.fact.mat, .ow (.lst (V.map Row.d)), .ow (.lst ((p.filter fun m => !(R.any fun x => rival r x m)).map .int)), y10, .no]) (l := span r)
    (s := [.sh (.obj b), .sh (.int r.num), .sh (.int r.heard), .sh (.int r.first), .sh (.int r.last), .sh r.fact.d, .sh r.d, .sh r.fact.mat, .ow (.lst (V.map Row.d)), .ow (.lst []), .no, .no]) (O := O2) ⟨rfl, .no, rfl⟩ (fun _ _ _ _ => rfl) fun p m q e s O' ⟨e1, y10, es⟩ => by
    subst e1 es
    have cc := covers_comp (k := k + 5) (O := O2) (L := V) (m := m) (s := [.sh (.obj b), .sh (.int r.num), .sh (.int r.heard), .sh (.int r.first), .sh (.int r.last), .sh r.fact.d, .sh r.d, .sh r.fact.mat, .ow (.lst (V.map Row.d)), .ow (.lst ((p.filter fun m => !(R.any fun x => rival r x m)).map .int)), .sh (.int m), .no]) lr rfl rfl rfl
    have rn := rows_nil (okr m)
    rw [at_m m] at rn
    have sl := span_len g
    have lp : p.length ≤ 24 := by
      have := congrArg List.length e
      simp at this
      omega
    have fl : ((p.filter fun m => !(R.any fun x => rival r x m)).map D.int).length < sizeLine := by
      have := List.length_filter_le (fun m => !(R.any fun x => rival r x m)) p
      have := le1000
      rw [List.length_map]
      omega
    have ap := bmf_app (x := .int m) fl
    rw [List.filter_append, List.map_append]
    refine ⟨_, O2, ?_, rfl, .sh (.int m), rfl⟩
    by_cases c : (R.any fun x => rival r x m) = true
    · have e0 : [m].filter (fun m => !(R.any fun x => rival r x m)) = [] := by simp [c]
      rw [e0]
      rw [c] at rn
      simp only [turn_ap, tellB, e_v, e_k, e_g, e_tup, e_lst, e_dct0, e_bin, e_neg, e_nt, e_an, e_or, e_cmp, e_cmp2, e_call, e_mk, e_meth, e_bi, e_fld, e_ix, e_sl, e_ife, e_isx, e_dl, x_asg, x_par, x_fld, x_sub, x_retN, x_pass, x_ite, x_rse, x_try, x_tryn, x_frz, r_k, r_tup, r_lst, r_bin, r_neg, r_nt, r_an, r_or, r_cmp, r_cmp2, r_call, r_mk, r_meth, r_bi, r_ix, r_sl, r_ife, r_g, r_fld, r_comp, r_compR, r_dl, r_dct0, x_exC, x_exM, x_bm, x_retV, b_nil, b_cons, l_nil, l_cons, a_one, a_cons, o_one, o_cons, p_none, p_some, c_none, c_some, bi_ok, bi_exc, bl_ok, bl_exc, lb_ok, lb_exc, th_ok, th_exc, lt_ok, lt_exc, se_nx, se_rt, se_exc, en_nx, en_rt, en_exc, op_shr, op_fr, of_t, of_f, cur_shr, cur_fr, cur_ho, cur_hb, cur_hf, curs_nil, curs_cons, Pu.frz1, Pu.Fl.free, sh_nil, sh_shr, putAt_ho, putAt_fr, bmf_clr, bmf_clrD, bmf_rev, nsts_ho, nsts_fr, nsts_shr, nsts_hb, nsts_hf, ta_nil, ta_shr, ta_ho, ta_hb, ta_hf, Pu.asn, Pu.asn.asns, Pu.wipeS, Pu.frzS, Pu.frz1S, Pu.bfn, Pu.bmT, Pu.dlf, Pu.kOf, bo_add, bo_sub, Pu.cmpo, Pu.truthy, Pu.isTy, Pu.isN, eq_ii, eq_ss, eq_bb, eq_nn, eq_is, eq_si, eq_ni, eq_in, eq_ns, eq_sn, eq_nb, eq_bn, eq_bs, eq_sb, Pu.item, i_0, i_1, i_2, i_3, i_4, Pu.iter, Pu.okIt, Pu.dOf, Pu.dOfs, List.set_cons_zero, List.set_cons_succ, List.getElem?_cons_zero, List.getElem?_cons_succ, List.length_cons, List.length_nil, Option.bind_some, Option.map_some, Option.isSome_some, Option.bind_none, Option.map_none, Option.getD_some, Bool.not_true, Bool.not_false, Va.str.injEq, Va.int.injEq, Va.bl.injEq, Bool.false_eq_true, Bool.true_and, Bool.and_true, Bool.false_and, Bool.and_false, decide_true, decide_false, if_true, if_false, ite_true, ite_false, reduceCtorEq, and_self, true_and, and_true, cc, rn, List.map_nil, List.append_nil]
    · have c' : (R.any fun x => rival r x m) = false := by simpa using c
      have e0 : [m].filter (fun m => !(R.any fun x => rival r x m)) = [m] := by simp [c']
      rw [e0]
      rw [c'] at rn
      simp only [turn_ap, tellB, e_v, e_k, e_g, e_tup, e_lst, e_dct0, e_bin, e_neg, e_nt, e_an, e_or, e_cmp, e_cmp2, e_call, e_mk, e_meth, e_bi, e_fld, e_ix, e_sl, e_ife, e_isx, e_dl, x_asg, x_par, x_fld, x_sub, x_retN, x_pass, x_ite, x_rse, x_try, x_tryn, x_frz, r_k, r_tup, r_lst, r_bin, r_neg, r_nt, r_an, r_or, r_cmp, r_cmp2, r_call, r_mk, r_meth, r_bi, r_ix, r_sl, r_ife, r_g, r_fld, r_comp, r_compR, r_dl, r_dct0, x_exC, x_exM, x_bm, x_retV, b_nil, b_cons, l_nil, l_cons, a_one, a_cons, o_one, o_cons, p_none, p_some, c_none, c_some, bi_ok, bi_exc, bl_ok, bl_exc, lb_ok, lb_exc, th_ok, th_exc, lt_ok, lt_exc, se_nx, se_rt, se_exc, en_nx, en_rt, en_exc, op_shr, op_fr, of_t, of_f, cur_shr, cur_fr, cur_ho, cur_hb, cur_hf, curs_nil, curs_cons, Pu.frz1, Pu.Fl.free, sh_nil, sh_shr, putAt_ho, putAt_fr, bmf_clr, bmf_clrD, bmf_rev, nsts_ho, nsts_fr, nsts_shr, nsts_hb, nsts_hf, ta_nil, ta_shr, ta_ho, ta_hb, ta_hf, Pu.asn, Pu.asn.asns, Pu.wipeS, Pu.frzS, Pu.frz1S, Pu.bfn, Pu.bmT, Pu.dlf, Pu.kOf, bo_add, bo_sub, Pu.cmpo, Pu.truthy, Pu.isTy, Pu.isN, eq_ii, eq_ss, eq_bb, eq_nn, eq_is, eq_si, eq_ni, eq_in, eq_ns, eq_sn, eq_nb, eq_bn, eq_bs, eq_sb, Pu.item, i_0, i_1, i_2, i_3, i_4, Pu.iter, Pu.okIt, Pu.dOf, Pu.dOfs, List.set_cons_zero, List.set_cons_succ, List.getElem?_cons_zero, List.getElem?_cons_succ, List.length_cons, List.length_nil, Option.bind_some, Option.map_some, Option.isSome_some, Option.bind_none, Option.map_none, Option.getD_some, Bool.not_true, Bool.not_false, Va.str.injEq, Va.int.injEq, Va.bl.injEq, Bool.false_eq_true, Bool.true_and, Bool.and_true, Bool.false_and, Bool.and_false, decide_true, decide_false, if_true, if_false, ite_true, ite_false, reduceCtorEq, and_self, true_and, and_true, cc, rn, ap, List.map_nil, List.map_cons]
  subst hO3
  have rg := span_rng g
  have c1 := x_frR (C := cf (k + 5)) (t := .nm 10) (es := [(.v 3), (.bin .add (.v 4) (.k (.int 1)))]) (b := tellB) (s := [.sh (.obj b), .sh (.int r.num), .sh (.int r.heard), .sh (.int r.first), .sh (.int r.last), .sh r.fact.d, .sh r.d, .sh r.fact.mat, .ow (.lst (V.map Row.d)), .ow (.lst []), .no, .no]) (O := O2) (O1 := O2) (vs := [(.int r.first, .shr), (.int (r.last + 1), .shr)]) (by simp only [e_v, e_k, e_g, e_tup, e_lst, e_dct0, e_bin, e_neg, e_nt, e_an, e_or, e_cmp, e_cmp2, e_call, e_mk, e_meth, e_bi, e_fld, e_ix, e_sl, e_ife, e_isx, e_dl, x_asg, x_par, x_fld, x_sub, x_retN, x_pass, x_ite, x_rse, x_try, x_tryn, x_frz, r_k, r_tup, r_lst, r_bin, r_neg, r_nt, r_an, r_or, r_cmp, r_cmp2, r_call, r_mk, r_meth, r_bi, r_ix, r_sl, r_ife, r_g, r_fld, r_comp, r_compR, r_dl, r_dct0, x_exC, x_exM, x_bm, x_retV, b_nil, b_cons, l_nil, l_cons, a_one, a_cons, o_one, o_cons, p_none, p_some, c_none, c_some, bi_ok, bi_exc, bl_ok, bl_exc, lb_ok, lb_exc, th_ok, th_exc, lt_ok, lt_exc, se_nx, se_rt, se_exc, en_nx, en_rt, en_exc, op_shr, op_fr, of_t, of_f, cur_shr, cur_fr, cur_ho, cur_hb, cur_hf, curs_nil, curs_cons, Pu.frz1, Pu.Fl.free, sh_nil, sh_shr, putAt_ho, putAt_fr, bmf_clr, bmf_clrD, bmf_rev, nsts_ho, nsts_fr, nsts_shr, nsts_hb, nsts_hf, ta_nil, ta_shr, ta_ho, ta_hb, ta_hf, Pu.asn, Pu.asn.asns, Pu.wipeS, Pu.frzS, Pu.frz1S, Pu.bfn, Pu.bmT, Pu.dlf, Pu.kOf, bo_add, bo_sub, Pu.cmpo, Pu.truthy, Pu.isTy, Pu.isN, eq_ii, eq_ss, eq_bb, eq_nn, eq_is, eq_si, eq_ni, eq_in, eq_ns, eq_sn, eq_nb, eq_bn, eq_bs, eq_sb, Pu.item, i_0, i_1, i_2, i_3, i_4, Pu.iter, Pu.okIt, Pu.dOf, Pu.dOfs, List.set_cons_zero, List.set_cons_succ, List.getElem?_cons_zero, List.getElem?_cons_succ, List.length_cons, List.length_nil, Option.bind_some, Option.map_some, Option.isSome_some, Option.bind_none, Option.map_none, Option.getD_some, Bool.not_true, Bool.not_false, Va.str.injEq, Va.int.injEq, Va.bl.injEq, Bool.false_eq_true, Bool.true_and, Bool.and_true, Bool.false_and, Bool.and_false, decide_true, decide_false, if_true, if_false, ite_true, ite_false, reduceCtorEq, and_self, true_and, and_true]) rg
  rw [e] at c1
  unfold tellB at c1
  have hm : ((span r).filter fun m => !(R.any fun x => rival r x m)) = months R r := rfl
  rw [hm] at c1
  simp only [f_Book_tell, b_f_Book_tell, Pu.begin_, List.map_cons, List.map_nil, List.drop_nil, List.append_nil, List.nil_append, List.replicate, List.cons_append, e_v, e_k, e_g, e_tup, e_lst, e_dct0, e_bin, e_neg, e_nt, e_an, e_or, e_cmp, e_cmp2, e_call, e_mk, e_meth, e_bi, e_fld, e_ix, e_sl, e_ife, e_isx, e_dl, x_asg, x_par, x_fld, x_sub, x_retN, x_pass, x_ite, x_rse, x_try, x_tryn, x_frz, r_k, r_tup, r_lst, r_bin, r_neg, r_nt, r_an, r_or, r_cmp, r_cmp2, r_call, r_mk, r_meth, r_bi, r_ix, r_sl, r_ife, r_g, r_fld, r_comp, r_compR, r_dl, r_dct0, x_exC, x_exM, x_bm, x_retV, b_nil, b_cons, l_nil, l_cons, a_one, a_cons, o_one, o_cons, p_none, p_some, c_none, c_some, bi_ok, bi_exc, bl_ok, bl_exc, lb_ok, lb_exc, th_ok, th_exc, lt_ok, lt_exc, se_nx, se_rt, se_exc, en_nx, en_rt, en_exc, op_shr, op_fr, of_t, of_f, cur_shr, cur_fr, cur_ho, cur_hb, cur_hf, curs_nil, curs_cons, Pu.frz1, Pu.Fl.free, sh_nil, sh_shr, putAt_ho, putAt_fr, bmf_clr, bmf_clrD, bmf_rev, nsts_ho, nsts_fr, nsts_shr, nsts_hb, nsts_hf, ta_nil, ta_shr, ta_ho, ta_hb, ta_hf, Pu.asn, Pu.asn.asns, Pu.wipeS, Pu.frzS, Pu.frz1S, Pu.bfn, Pu.bmT, Pu.dlf, Pu.kOf, bo_add, bo_sub, Pu.cmpo, Pu.truthy, Pu.isTy, Pu.isN, eq_ii, eq_ss, eq_bb, eq_nn, eq_is, eq_si, eq_ni, eq_in, eq_ns, eq_sn, eq_nb, eq_bn, eq_bs, eq_sb, Pu.item, i_0, i_1, i_2, i_3, i_4, Pu.iter, Pu.okIt, Pu.dOf, Pu.dOfs, List.set_cons_zero, List.set_cons_succ, List.getElem?_cons_zero, List.getElem?_cons_succ, List.length_cons, List.length_nil, Option.bind_some, Option.map_some, Option.isSome_some, Option.bind_none, Option.map_none, Option.getD_some, Bool.not_true, Bool.not_false, Va.str.injEq, Va.int.injEq, Va.bl.injEq, Bool.false_eq_true, Bool.true_and, Bool.and_true, Bool.false_and, Bool.and_false, decide_true, decide_false, if_true, if_false, ite_true, ite_false, reduceCtorEq, and_self, true_and, and_true, gls, nw, fb, mut_known, nst_known, i1, l60, no, pa, mt, rc, c1]
end K82
set_option Elab.async false
set_option linter.all false
set_option maxRecDepth 100000
set_option maxHeartbeats 4000000
namespace K82
open Pu
open Dl (Va Ex Sm Tg Fn sortV leV srtOk)
open PySem (Str sizeLine PyData)
theorem stdD_val {F : List (Ky × D)} (s : Std F) {p : Ky × D} (h : p ∈ stdD F) : (∃ f : Fact, f.ok ∧ p.1 = f.about) ∧ ∃ f : Fact, f.ok ∧ p.2 = f.d := by
  unfold stdD at h
  obtain ⟨y, hy, rfl⟩ := List.mem_map.mp h
  have hm := (skeys_perm F).mem_iff.mp hy
  obtain ⟨x, hx, rfl⟩ := List.mem_map.mp hm
  exact ⟨s.ab x hx, std_va s hm⟩
theorem gd_items {F : List (Ky × D)} (s : Std F) : gd 20 (.lst ((stdD F).map fun p => .tup [p.1.d, p.2])) = true := by
  unfold gd
  rw [List.all_map, List.all_eq_true]
  intro p hp
  obtain ⟨⟨f, fo, e1⟩, g, go, e2⟩ := stdD_val s hp
  show gd 19 (.tup [p.1.d, p.2]) = true
  rw [e1, e2]
  have := gd_mat fo 17
  have h2 := gd_fact go 17
  unfold Fact.mat at this
  simp [gd, this, h2]
theorem noOwn_std {F : List (Ky × D)} (s : Std F) : noOwn (stdD F) = true := by
  unfold noOwn
  rw [List.all_eq_true]
  intro p hp
  obtain ⟨_, g, _, e2⟩ := stdD_val s hp
  rw [e2, fact_not_own]
  rfl
theorem gd_ints (l : List Int) : gd 20 (.lst (l.map .int)) = true := by
  unfold gd
  rw [List.all_map, List.all_eq_true]
  intro _ _
  rfl
theorem alike_ok {k b : Nat} {m c : Int} {O : Os} {R : List Row} (h : O[b]? = some (bk R)) (nd : numsNd R) (ok : ∀ r ∈ R, r.Ok) (hl : R.length ≤ 100) : Pu.run Q (k + 3) i__law_alike [.sh (.obj b), .bo (.lst (R.map Row.d)), .sh (.int m), .sh (.int c)] O = .ok (.bl true) .shr O := by
  rw [run_at (d := f__law_alike) rfl rfl]
  have st := standing_ok (k := k) (m := m) (c := c) h nd ok hl
  have ls := law_stands_ok (k := k) (m := m) (c := c) (O := O) nd ok hl
  have td := told_ok (k := k + 1) h nd hl
  have sr := srt_rows nd ok
  have S := std_stand (R := R) (m := m) (c := c) ok
  have e1 := eqq_same (gd_items S)
  have e2 := eqq_same (gd_rows (R := byNum R) (fun r hr => ok r (byNum_mem.mp hr)) 17)
  have no := noOwn_std S
  generalize stdD (stand R m c) = E at *
  simp only [f__law_alike, b_f__law_alike, Pu.begin_, List.map_cons, List.map_nil, List.drop_nil, List.append_nil, List.nil_append, List.replicate, List.cons_append, e_v, e_k, e_g, e_tup, e_lst, e_dct0, e_bin, e_neg, e_nt, e_an, e_or, e_cmp, e_cmp2, e_call, e_mk, e_meth, e_bi, e_fld, e_ix, e_sl, e_ife, e_isx, e_dl, x_asg, x_par, x_fld, x_sub, x_retN, x_pass, x_ite, x_rse, x_try, x_tryn, x_frz, r_k, r_tup, r_lst, r_bin, r_neg, r_nt, r_an, r_or, r_cmp, r_cmp2, r_call, r_mk, r_meth, r_bi, r_ix, r_sl, r_ife, r_g, r_fld, r_comp, r_compR, r_dl, r_dct0, x_exC, x_exM, x_bm, x_retV, b_nil, b_cons, l_nil, l_cons, a_one, a_cons, o_one, o_cons, p_none, p_some, c_none, c_some, bi_ok, bi_exc, bl_ok, bl_exc, lb_ok, lb_exc, th_ok, th_exc, lt_ok, lt_exc, se_nx, se_rt, se_exc, en_nx, en_rt, en_exc, op_shr, op_fr, of_t, of_f, cur_shr, cur_fr, cur_ho, cur_hb, cur_hf, curs_nil, curs_cons, Pu.frz1, Pu.Fl.free, sh_nil, sh_shr, putAt_ho, putAt_fr, bmf_clr, bmf_clrD, bmf_rev, nsts_ho, nsts_fr, nsts_shr, nsts_hb, nsts_hf, ta_nil, ta_shr, ta_ho, ta_hb, ta_hf, Pu.asn, Pu.asn.asns, Pu.wipeS, Pu.frzS, Pu.frz1S, Pu.bfn, Pu.bmT, Pu.dlf, Pu.kOf, bo_add, bo_sub, Pu.cmpo, Pu.truthy, Pu.isTy, Pu.isN, eq_ii, eq_ss, eq_bb, eq_nn, eq_is, eq_si, eq_ni, eq_in, eq_ns, eq_sn, eq_nb, eq_bn, eq_bs, eq_sb, Pu.item, i_0, i_1, i_2, i_3, i_4, Pu.iter, Pu.okIt, Pu.dOf, Pu.dOfs, List.set_cons_zero, List.set_cons_succ, List.getElem?_cons_zero, List.getElem?_cons_succ, List.length_cons, List.length_nil, Option.bind_some, Option.map_some, Option.isSome_some, Option.bind_none, Option.map_none, Option.getD_some, Bool.not_true, Bool.not_false, Va.str.injEq, Va.int.injEq, Va.bl.injEq, Bool.false_eq_true, Bool.true_and, Bool.and_true, Bool.false_and, Bool.and_false, decide_true, decide_false, if_true, if_false, ite_true, ite_false, reduceCtorEq, and_self, true_and, and_true, h, bk_c, cl_Book, ml_Book_standing, ml_Book_told, st, ls, td, sr, e1, e2, no]
theorem at_row {r : Row} {i : Int} (h : i.fmod 2 = 0 ∨ i.fmod 2 = 1) : ∃ v : Int, Dl.atI [D.int r.num, .int r.heard, .int r.first, .int r.last, r.fact.d] (2 + i.fmod 2) = some (.int v) := by
  rcases h with h | h
  · exact ⟨r.first, by rw [h]; exact i_2⟩
  · exact ⟨r.last, by rw [h]; exact i_3⟩
theorem mod2 (i : Int) : i.fmod 2 = 0 ∨ i.fmod 2 = 1 := by
  rw [Int.fmod_eq_emod_of_nonneg _ (by decide)]
  omega
def lawB : List Sm := match b_f_law with
  | [_, _, _, _, _, _, _, _, .frR _ _ b, _, _, _] => b
  | _ => []
def lawC : List Sm := match b_f_law with
  | [_, _, _, _, _, _, _, _, _, _, .frR _ _ b, _] => b
  | _ => []
theorem turn1 {k : Nat} {sc : D} {pl : Sl} {R H p q : List Row} {r : Row} {stop s0 s1 : Int} {y9 y10 y11 y12 y13 : Sl} (nd : numsNd R) (ok : ∀ r ∈ R, r.Ok) (hl : R.length ≤ 59) (e : R = p ++ r :: q) (hH : H.Sublist p) :
    ∃ (H' : List Row) (t0 t1 : Int) (z9 z10 z11 : Sl), turnS (cf (k + 6)) (.nm 9) lawB (.int p.length) [.sh sc, pl, .ow (.lst (R.map Row.d)), .sh (.obj 0), .sh (.obj 1), .ow (.lst (p.map Row.d)), .ow (.lst (H.map Row.d)), .sh (.int stop), .sh (.tup [.int s0, .int s1]), y9, y10, y11, y12, y13] [bk p, bk H] =
      .nx [.sh sc, pl, .ow (.lst (R.map Row.d)), .sh (.obj 0), .sh (.obj 1), .ow (.lst ((p ++ [r]).map Row.d)), .ow (.lst (H'.map Row.d)), .sh (.int stop), .sh (.tup [.int t0, .int t1]), z9, z10, z11, y12, y13] [bk (p ++ [r]), bk H'] ∧ H'.Sublist (p ++ [r]) := by
  have er : (R.map Row.d)[p.length]? = some r.d := by rw [e]; simp
  have lR : p.length + 1 ≤ R.length := by rw [e]; simp
  have sp : (p ++ [r]).Sublist R := by rw [e]; simp
  have spp : p.Sublist R := by rw [e]; simp
  have ndp : numsNd (p ++ [r]) := nd.sublist (sp.map Row.num)
  have nd0 : numsNd p := nd.sublist (spp.map Row.num)
  have okp : ∀ x ∈ p, x.Ok := fun x hx => ok x (spp.subset hx)
  have g : r.Ok := ok r (by rw [e]; simp)
  have hO : ([bk p, bk H] : Os)[0]? = some (bk p) := rfl
  have tl := tell_ok (k := k) hO ndp (by omega) g okp
  have lm := law_months_ok (k := k + 4) (O := [bk (p ++ [r]), bk H]) g okp (by omega)
  have eqm := eqq_same (gd_ints (months p r))
  have ap := bmf_app (l := p.map Row.d) (x := r.d) (by have := le1000; rw [List.length_map]; omega)
  have pm : p.map Row.d ++ [r.d] = (p ++ [r]).map Row.d := by simp
  rw [pm] at ap
  obtain ⟨v, ev⟩ := at_row (r := r) (mod2 (p.length : Int))
  have al := fun mm cc => alike_ok (k := k + 3) (m := mm) (c := cc) hO nd0 okp (by omega)
  have hH1 : numsNd (H ++ [r]) := ndp.sublist ((hH.append (List.Sublist.refl [r])).map Row.num)
  have hO1 : ([bk (p ++ [r]), bk H] : Os)[1]? = some (bk H) := rfl
  have lH := hH.length_le
  have tl2 := tell_ok (k := k) hO1 hH1 (by omega) g fun x hx => okp x (hH.subset hx)
  have ap2 := bmf_app (l := H.map Row.d) (x := r.d) (by have := le1000; rw [List.length_map]; omega)
  have pm2 : H.map Row.d ++ [r.d] = (H ++ [r]).map Row.d := by simp
  rw [pm2] at ap2
  have st1 : ([bk p, bk H] : Os).set 0 (bk (p ++ [r])) = [bk (p ++ [r]), bk H] := rfl
  have st2 : ([bk (p ++ [r]), bk H] : Os).set 1 (bk (H ++ [r])) = [bk (p ++ [r]), bk (H ++ [r])] := rfl
  rw [st1] at tl
  rw [st2] at tl2
  have z01 : ¬ (0 : Int) = 1 := by decide
  have rd : r.d = .tup [.int r.num, .int r.heard, .int r.first, .int r.last, r.fact.d] := rfl
  have mm := mod2 (p.length : Int)
  have hs1 : H.Sublist (p ++ [r]) := hH.trans (List.sublist_append_left _ _)
  have hs2 : (H ++ [r]).Sublist (p ++ [r]) := hH.append (List.Sublist.refl [r])
  by_cases cs : (p.length : Int) = stop
  · have cs := cs.symm
    subst cs
    have cs : True := trivial
    rcases mm with mx | mx
    · refine ⟨H, v, r.heard, .sh (.int p.length), .sh r.d, .ow (.lst ((months p r).map .int)), ?_, hs1⟩
      generalize (p ++ [r]).map Row.d = P1 at *
      generalize p.map Row.d = P0 at *
      generalize H.map Row.d = H0 at *
      generalize R.map Row.d = R0 at *
      generalize (months p r).map D.int = M0 at *
      rw [rd] at er lm ap ap2 ⊢
      rw [mx] at ev
      simp only [turn_ap, lawB, b_f_law, e_v, e_k, e_g, e_tup, e_lst, e_dct0, e_bin, e_neg, e_nt, e_an, e_or, e_cmp, e_cmp2, e_call, e_mk, e_meth, e_bi, e_fld, e_ix, e_sl, e_ife, e_isx, e_dl, x_asg, x_par, x_fld, x_sub, x_retN, x_pass, x_ite, x_rse, x_try, x_tryn, x_frz, r_k, r_tup, r_lst, r_bin, r_neg, r_nt, r_an, r_or, r_cmp, r_cmp2, r_call, r_mk, r_meth, r_bi, r_ix, r_sl, r_ife, r_g, r_fld, r_comp, r_compR, r_dl, r_dct0, x_exC, x_exM, x_bm, x_retV, b_nil, b_cons, l_nil, l_cons, a_one, a_cons, o_one, o_cons, p_none, p_some, c_none, c_some, bi_ok, bi_exc, bl_ok, bl_exc, lb_ok, lb_exc, th_ok, th_exc, lt_ok, lt_exc, se_nx, se_rt, se_exc, en_nx, en_rt, en_exc, op_shr, op_fr, of_t, of_f, cur_shr, cur_fr, cur_ho, cur_hb, cur_hf, curs_nil, curs_cons, Pu.frz1, Pu.Fl.free, sh_nil, sh_shr, putAt_ho, putAt_fr, bmf_clr, bmf_clrD, bmf_rev, nsts_ho, nsts_fr, nsts_shr, nsts_hb, nsts_hf, ta_nil, ta_shr, ta_ho, ta_hb, ta_hf, Pu.asn, Pu.asn.asns, Pu.wipeS, Pu.frzS, Pu.frz1S, Pu.bfn, Pu.bmT, Pu.dlf, Pu.kOf, bo_add, bo_sub, Pu.cmpo, Pu.truthy, Pu.isTy, Pu.isN, eq_ii, eq_ss, eq_bb, eq_nn, eq_is, eq_si, eq_ni, eq_in, eq_ns, eq_sn, eq_nb, eq_bn, eq_bs, eq_sb, Pu.item, i_0, i_1, i_2, i_3, i_4, Pu.iter, Pu.okIt, Pu.dOf, Pu.dOfs, List.set_cons_zero, List.set_cons_succ, List.getElem?_cons_zero, List.getElem?_cons_succ, List.length_cons, List.length_nil, Option.bind_some, Option.map_some, Option.isSome_some, Option.bind_none, Option.map_none, Option.getD_some, Bool.not_true, Bool.not_false, Va.str.injEq, Va.int.injEq, Va.bl.injEq, Bool.false_eq_true, Bool.true_and, Bool.and_true, Bool.false_and, Bool.and_false, decide_true, decide_false, if_true, if_false, ite_true, ite_false, reduceCtorEq, and_self, true_and, and_true, eq_self, z01, cs, i_nat, er, mx, bo_mod (b := 2) (by decide), ev, al, cl_Book, bk_c, ml_Book_tell, tl, lm, eqm, ap, ap2, tl2, hO, hO1]
    · refine ⟨H ++ [r], v, r.heard, .sh (.int p.length), .sh r.d, .ow (.lst ((months p r).map .int)), ?_, hs2⟩
      generalize (p ++ [r]).map Row.d = P1 at *
      generalize (H ++ [r]).map Row.d = H1 at *
      generalize p.map Row.d = P0 at *
      generalize H.map Row.d = H0 at *
      generalize R.map Row.d = R0 at *
      generalize (months p r).map D.int = M0 at *
      rw [rd] at er lm ap ap2 ⊢
      rw [mx] at ev
      simp only [turn_ap, lawB, b_f_law, e_v, e_k, e_g, e_tup, e_lst, e_dct0, e_bin, e_neg, e_nt, e_an, e_or, e_cmp, e_cmp2, e_call, e_mk, e_meth, e_bi, e_fld, e_ix, e_sl, e_ife, e_isx, e_dl, x_asg, x_par, x_fld, x_sub, x_retN, x_pass, x_ite, x_rse, x_try, x_tryn, x_frz, r_k, r_tup, r_lst, r_bin, r_neg, r_nt, r_an, r_or, r_cmp, r_cmp2, r_call, r_mk, r_meth, r_bi, r_ix, r_sl, r_ife, r_g, r_fld, r_comp, r_compR, r_dl, r_dct0, x_exC, x_exM, x_bm, x_retV, b_nil, b_cons, l_nil, l_cons, a_one, a_cons, o_one, o_cons, p_none, p_some, c_none, c_some, bi_ok, bi_exc, bl_ok, bl_exc, lb_ok, lb_exc, th_ok, th_exc, lt_ok, lt_exc, se_nx, se_rt, se_exc, en_nx, en_rt, en_exc, op_shr, op_fr, of_t, of_f, cur_shr, cur_fr, cur_ho, cur_hb, cur_hf, curs_nil, curs_cons, Pu.frz1, Pu.Fl.free, sh_nil, sh_shr, putAt_ho, putAt_fr, bmf_clr, bmf_clrD, bmf_rev, nsts_ho, nsts_fr, nsts_shr, nsts_hb, nsts_hf, ta_nil, ta_shr, ta_ho, ta_hb, ta_hf, Pu.asn, Pu.asn.asns, Pu.wipeS, Pu.frzS, Pu.frz1S, Pu.bfn, Pu.bmT, Pu.dlf, Pu.kOf, bo_add, bo_sub, Pu.cmpo, Pu.truthy, Pu.isTy, Pu.isN, eq_ii, eq_ss, eq_bb, eq_nn, eq_is, eq_si, eq_ni, eq_in, eq_ns, eq_sn, eq_nb, eq_bn, eq_bs, eq_sb, Pu.item, i_0, i_1, i_2, i_3, i_4, Pu.iter, Pu.okIt, Pu.dOf, Pu.dOfs, List.set_cons_zero, List.set_cons_succ, List.getElem?_cons_zero, List.getElem?_cons_succ, List.length_cons, List.length_nil, Option.bind_some, Option.map_some, Option.isSome_some, Option.bind_none, Option.map_none, Option.getD_some, Bool.not_true, Bool.not_false, Va.str.injEq, Va.int.injEq, Va.bl.injEq, Bool.false_eq_true, Bool.true_and, Bool.and_true, Bool.false_and, Bool.and_false, decide_true, decide_false, if_true, if_false, ite_true, ite_false, reduceCtorEq, and_self, true_and, and_true, eq_self, z01, cs, i_nat, er, mx, bo_mod (b := 2) (by decide), ev, al, cl_Book, bk_c, ml_Book_tell, tl, lm, eqm, ap, ap2, tl2, hO, hO1]
  · rcases mm with mx | mx
    · refine ⟨H, s0, s1, .sh (.int p.length), .sh r.d, .ow (.lst ((months p r).map .int)), ?_, hs1⟩
      generalize (p ++ [r]).map Row.d = P1 at *
      generalize p.map Row.d = P0 at *
      generalize H.map Row.d = H0 at *
      generalize R.map Row.d = R0 at *
      generalize (months p r).map D.int = M0 at *
      rw [rd] at er lm ap ap2 ⊢
      rw [mx] at ev
      simp only [turn_ap, lawB, b_f_law, e_v, e_k, e_g, e_tup, e_lst, e_dct0, e_bin, e_neg, e_nt, e_an, e_or, e_cmp, e_cmp2, e_call, e_mk, e_meth, e_bi, e_fld, e_ix, e_sl, e_ife, e_isx, e_dl, x_asg, x_par, x_fld, x_sub, x_retN, x_pass, x_ite, x_rse, x_try, x_tryn, x_frz, r_k, r_tup, r_lst, r_bin, r_neg, r_nt, r_an, r_or, r_cmp, r_cmp2, r_call, r_mk, r_meth, r_bi, r_ix, r_sl, r_ife, r_g, r_fld, r_comp, r_compR, r_dl, r_dct0, x_exC, x_exM, x_bm, x_retV, b_nil, b_cons, l_nil, l_cons, a_one, a_cons, o_one, o_cons, p_none, p_some, c_none, c_some, bi_ok, bi_exc, bl_ok, bl_exc, lb_ok, lb_exc, th_ok, th_exc, lt_ok, lt_exc, se_nx, se_rt, se_exc, en_nx, en_rt, en_exc, op_shr, op_fr, of_t, of_f, cur_shr, cur_fr, cur_ho, cur_hb, cur_hf, curs_nil, curs_cons, Pu.frz1, Pu.Fl.free, sh_nil, sh_shr, putAt_ho, putAt_fr, bmf_clr, bmf_clrD, bmf_rev, nsts_ho, nsts_fr, nsts_shr, nsts_hb, nsts_hf, ta_nil, ta_shr, ta_ho, ta_hb, ta_hf, Pu.asn, Pu.asn.asns, Pu.wipeS, Pu.frzS, Pu.frz1S, Pu.bfn, Pu.bmT, Pu.dlf, Pu.kOf, bo_add, bo_sub, Pu.cmpo, Pu.truthy, Pu.isTy, Pu.isN, eq_ii, eq_ss, eq_bb, eq_nn, eq_is, eq_si, eq_ni, eq_in, eq_ns, eq_sn, eq_nb, eq_bn, eq_bs, eq_sb, Pu.item, i_0, i_1, i_2, i_3, i_4, Pu.iter, Pu.okIt, Pu.dOf, Pu.dOfs, List.set_cons_zero, List.set_cons_succ, List.getElem?_cons_zero, List.getElem?_cons_succ, List.length_cons, List.length_nil, Option.bind_some, Option.map_some, Option.isSome_some, Option.bind_none, Option.map_none, Option.getD_some, Bool.not_true, Bool.not_false, Va.str.injEq, Va.int.injEq, Va.bl.injEq, Bool.false_eq_true, Bool.true_and, Bool.and_true, Bool.false_and, Bool.and_false, decide_true, decide_false, if_true, if_false, ite_true, ite_false, reduceCtorEq, and_self, true_and, and_true, eq_self, z01, cs, i_nat, er, mx, bo_mod (b := 2) (by decide), ev, al, cl_Book, bk_c, ml_Book_tell, tl, lm, eqm, ap, ap2, tl2, hO, hO1]
    · refine ⟨H ++ [r], s0, s1, .sh (.int p.length), .sh r.d, .ow (.lst ((months p r).map .int)), ?_, hs2⟩
      generalize (p ++ [r]).map Row.d = P1 at *
      generalize (H ++ [r]).map Row.d = H1 at *
      generalize p.map Row.d = P0 at *
      generalize H.map Row.d = H0 at *
      generalize R.map Row.d = R0 at *
      generalize (months p r).map D.int = M0 at *
      rw [rd] at er lm ap ap2 ⊢
      rw [mx] at ev
      simp only [turn_ap, lawB, b_f_law, e_v, e_k, e_g, e_tup, e_lst, e_dct0, e_bin, e_neg, e_nt, e_an, e_or, e_cmp, e_cmp2, e_call, e_mk, e_meth, e_bi, e_fld, e_ix, e_sl, e_ife, e_isx, e_dl, x_asg, x_par, x_fld, x_sub, x_retN, x_pass, x_ite, x_rse, x_try, x_tryn, x_frz, r_k, r_tup, r_lst, r_bin, r_neg, r_nt, r_an, r_or, r_cmp, r_cmp2, r_call, r_mk, r_meth, r_bi, r_ix, r_sl, r_ife, r_g, r_fld, r_comp, r_compR, r_dl, r_dct0, x_exC, x_exM, x_bm, x_retV, b_nil, b_cons, l_nil, l_cons, a_one, a_cons, o_one, o_cons, p_none, p_some, c_none, c_some, bi_ok, bi_exc, bl_ok, bl_exc, lb_ok, lb_exc, th_ok, th_exc, lt_ok, lt_exc, se_nx, se_rt, se_exc, en_nx, en_rt, en_exc, op_shr, op_fr, of_t, of_f, cur_shr, cur_fr, cur_ho, cur_hb, cur_hf, curs_nil, curs_cons, Pu.frz1, Pu.Fl.free, sh_nil, sh_shr, putAt_ho, putAt_fr, bmf_clr, bmf_clrD, bmf_rev, nsts_ho, nsts_fr, nsts_shr, nsts_hb, nsts_hf, ta_nil, ta_shr, ta_ho, ta_hb, ta_hf, Pu.asn, Pu.asn.asns, Pu.wipeS, Pu.frzS, Pu.frz1S, Pu.bfn, Pu.bmT, Pu.dlf, Pu.kOf, bo_add, bo_sub, Pu.cmpo, Pu.truthy, Pu.isTy, Pu.isN, eq_ii, eq_ss, eq_bb, eq_nn, eq_is, eq_si, eq_ni, eq_in, eq_ns, eq_sn, eq_nb, eq_bn, eq_bs, eq_sb, Pu.item, i_0, i_1, i_2, i_3, i_4, Pu.iter, Pu.okIt, Pu.dOf, Pu.dOfs, List.set_cons_zero, List.set_cons_succ, List.getElem?_cons_zero, List.getElem?_cons_succ, List.length_cons, List.length_nil, Option.bind_some, Option.map_some, Option.isSome_some, Option.bind_none, Option.map_none, Option.getD_some, Bool.not_true, Bool.not_false, Va.str.injEq, Va.int.injEq, Va.bl.injEq, Bool.false_eq_true, Bool.true_and, Bool.and_true, Bool.false_and, Bool.and_false, decide_true, decide_false, if_true, if_false, ite_true, ite_false, reduceCtorEq, and_self, true_and, and_true, eq_self, z01, cs, i_nat, er, mx, bo_mod (b := 2) (by decide), ev, al, cl_Book, bk_c, ml_Book_tell, tl, lm, eqm, ap, ap2, tl2, hO, hO1]
theorem cell0 {k : Nat} {ns : List Int} {O : Os} : Pu.run Q (k + 1) i__law_cell [.sh (.rl (ns.map .int)), .sh (.int 0)] O = .ok (.int (cell ns 0)) .shr O := law_cell_ok (i := 0)
theorem cell1 {k : Nat} {ns : List Int} {O : Os} : Pu.run Q (k + 1) i__law_cell [.sh (.rl (ns.map .int)), .sh (.int 1)] O = .ok (.int (cell ns 1)) .shr O := law_cell_ok (i := 1)
theorem cell2 {k : Nat} {ns : List Int} {O : Os} : Pu.run Q (k + 1) i__law_cell [.sh (.rl (ns.map .int)), .sh (.int 2)] O = .ok (.int (cell ns 2)) .shr O := law_cell_ok (i := 2)
theorem new0 {k : Nat} {s : Slots} : evE (cf (k + 1)) (.mk C_Book []) s [] = .ok (.obj 0) .shr [bk []] := new_ok
theorem new1 {k : Nat} {s : Slots} : evE (cf (k + 1)) (.mk C_Book []) s [bk []] = .ok (.obj 1) .shr [bk [], bk []] := new_ok
/-- one of some rows -/
theorem row_of {R : List Row} (c : Int) (h : R ≠ []) : ∃ r : Row, r ∈ R ∧ Dl.atI (R.map Row.d) (c.fmod (R.map Row.d).length) = some r.d := by
  have l : 0 < R.length := List.length_pos_iff.mpr h
  have e : ((R.map Row.d).length : Int) = (R.length : Int) := by rw [List.length_map]
  rw [e]
  have a := Int.fmod_nonneg_of_pos c (b := R.length) (by omega)
  have b := Int.fmod_lt_of_pos c (b := R.length) (by omega)
  have lt : (c.fmod R.length).toNat < R.length := by omega
  refine ⟨R[(c.fmod R.length).toNat], List.getElem_mem lt, ?_⟩
  rw [i_of a, List.getElem?_map, List.getElem?_eq_getElem lt]
  rfl
theorem turn2 {k i : Nat} {ns : List Int} {pl : Sl} {R H : List Row} {y5 y6 y7 y8 y9 y10 y11 y12 y13 : Sl} (nd : numsNd R) (ok : ∀ r ∈ R, r.Ok) (hl : R.length ≤ 59) (hH : H.Sublist R) (hi : i < 3) :
    ∃ (z12 z13 : Sl), turnS (cf (k + 6)) (.nm 9) lawC (.int i) [.sh (.rl (ns.map .int)), pl, .ow (.lst (R.map Row.d)), .sh (.obj 0), .sh (.obj 1), y5, .ow (.lst (H.map Row.d)), y7, y8, y9, y10, y11, y12, y13] [bk R, bk H] =
      .nx [.sh (.rl (ns.map .int)), pl, .ow (.lst (R.map Row.d)), .sh (.obj 0), .sh (.obj 1), y5, .ow (.lst (H.map Row.d)), y7, y8, .sh (.int i), y10, y11, z12, z13] [bk R, bk H] := by
  have hO : ([bk R, bk H] : Os)[0]? = some (bk R) := rfl
  have hO1 : ([bk R, bk H] : Os)[1]? = some (bk H) := rfl
  have a1 := fun mm cc => alike_ok (k := k + 3) (m := mm) (c := cc) hO nd ok (by omega)
  have a2 := fun mm cc => alike_ok (k := k + 3) (m := mm) (c := cc) hO1 (nd.sublist (hH.map Row.num)) (fun r hr => ok r (hH.subset hr)) (by have := hH.length_le; omega)
  have lc := law_cell_ok (k := k + 5) (i := i) (ns := ns) (O := [bk R, bk H])
  have rn := rows_nil ok
  have neq : eqq (.lst (R.map Row.d)) (.lst []) = some R.isEmpty := rn
  by_cases hR : R = []
  · have re : R.isEmpty = true := by rw [hR]; rfl
    rw [re] at neq
    refine ⟨.sh (.int ((mix (cell ns i) 1).fmod 24)), .sh (.int ((mix (cell ns i) 2).fmod 24)), ?_⟩
    generalize R.map Row.d = R0 at *
    generalize H.map Row.d = H0 at *
    simp only [turn_ap, lawC, b_f_law, e_v, e_k, e_g, e_tup, e_lst, e_dct0, e_bin, e_neg, e_nt, e_an, e_or, e_cmp, e_cmp2, e_call, e_mk, e_meth, e_bi, e_fld, e_ix, e_sl, e_ife, e_isx, e_dl, x_asg, x_par, x_fld, x_sub, x_retN, x_pass, x_ite, x_rse, x_try, x_tryn, x_frz, r_k, r_tup, r_lst, r_bin, r_neg, r_nt, r_an, r_or, r_cmp, r_cmp2, r_call, r_mk, r_meth, r_bi, r_ix, r_sl, r_ife, r_g, r_fld, r_comp, r_compR, r_dl, r_dct0, x_exC, x_exM, x_bm, x_retV, b_nil, b_cons, l_nil, l_cons, a_one, a_cons, o_one, o_cons, p_none, p_some, c_none, c_some, bi_ok, bi_exc, bl_ok, bl_exc, lb_ok, lb_exc, th_ok, th_exc, lt_ok, lt_exc, se_nx, se_rt, se_exc, en_nx, en_rt, en_exc, op_shr, op_fr, of_t, of_f, cur_shr, cur_fr, cur_ho, cur_hb, cur_hf, curs_nil, curs_cons, Pu.frz1, Pu.Fl.free, sh_nil, sh_shr, putAt_ho, putAt_fr, bmf_clr, bmf_clrD, bmf_rev, nsts_ho, nsts_fr, nsts_shr, nsts_hb, nsts_hf, ta_nil, ta_shr, ta_ho, ta_hb, ta_hf, Pu.asn, Pu.asn.asns, Pu.wipeS, Pu.frzS, Pu.frz1S, Pu.bfn, Pu.bmT, Pu.dlf, Pu.kOf, bo_add, bo_sub, Pu.cmpo, Pu.truthy, Pu.isTy, Pu.isN, eq_ii, eq_ss, eq_bb, eq_nn, eq_is, eq_si, eq_ni, eq_in, eq_ns, eq_sn, eq_nb, eq_bn, eq_bs, eq_sb, Pu.item, i_0, i_1, i_2, i_3, i_4, Pu.iter, Pu.okIt, Pu.dOf, Pu.dOfs, List.set_cons_zero, List.set_cons_succ, List.getElem?_cons_zero, List.getElem?_cons_succ, List.length_cons, List.length_nil, Option.bind_some, Option.map_some, Option.isSome_some, Option.bind_none, Option.map_none, Option.getD_some, Bool.not_true, Bool.not_false, Va.str.injEq, Va.int.injEq, Va.bl.injEq, Bool.false_eq_true, Bool.true_and, Bool.and_true, Bool.false_and, Bool.and_false, decide_true, decide_false, if_true, if_false, ite_true, ite_false, reduceCtorEq, and_self, true_and, and_true, lc, mixed1, mixed2, bo_mod (b := 24) (by decide), neq, a1, a2]
  · have re : R.isEmpty = false := by
      cases R with
      | nil => exact absurd rfl hR
      | cons => rfl
    rw [re] at neq
    obtain ⟨r1, _, e1⟩ := row_of ((cell ns 1).fdiv 2) hR
    obtain ⟨r2, _, e2⟩ := row_of (cell ns 2) hR
    have l0 : ((R.map Row.d).length : Int) ≠ 0 := by
      have : 0 < R.length := List.length_pos_iff.mpr hR
      rw [List.length_map]
      omega
    have d1 : r1.d = .tup [.int r1.num, .int r1.heard, .int r1.first, .int r1.last, r1.fact.d] := rfl
    have d2 : r2.d = .tup [.int r2.num, .int r2.heard, .int r2.first, .int r2.last, r2.fact.d] := rfl
    rw [d1] at e1
    rw [d2] at e2
    have z00 : ¬ (0 : Int) < 0 := by decide
    have z10 : (0 : Int) < 1 := by decide
    have z20 : (0 : Int) < 2 := by decide
    have z11 : (1 : Int) + 1 = 2 := by decide
    have z12 : (1 : Int) + 2 = 3 := by decide
    rcases (show i = 0 ∨ i = 1 ∨ i = 2 by omega) with rfl | rfl | rfl
    · refine ⟨.sh (.int ((mix (cell ns 0) 1).fmod 24)), .sh (.int ((mix (cell ns 0) 2).fmod 24)), ?_⟩
      generalize R.map Row.d = R0 at *
      generalize H.map Row.d = H0 at *
      simp only [Int.natCast_zero] at lc ⊢
      simp only [turn_ap, lawC, b_f_law, e_v, e_k, e_g, e_tup, e_lst, e_dct0, e_bin, e_neg, e_nt, e_an, e_or, e_cmp, e_cmp2, e_call, e_mk, e_meth, e_bi, e_fld, e_ix, e_sl, e_ife, e_isx, e_dl, x_asg, x_par, x_fld, x_sub, x_retN, x_pass, x_ite, x_rse, x_try, x_tryn, x_frz, r_k, r_tup, r_lst, r_bin, r_neg, r_nt, r_an, r_or, r_cmp, r_cmp2, r_call, r_mk, r_meth, r_bi, r_ix, r_sl, r_ife, r_g, r_fld, r_comp, r_compR, r_dl, r_dct0, x_exC, x_exM, x_bm, x_retV, b_nil, b_cons, l_nil, l_cons, a_one, a_cons, o_one, o_cons, p_none, p_some, c_none, c_some, bi_ok, bi_exc, bl_ok, bl_exc, lb_ok, lb_exc, th_ok, th_exc, lt_ok, lt_exc, se_nx, se_rt, se_exc, en_nx, en_rt, en_exc, op_shr, op_fr, of_t, of_f, cur_shr, cur_fr, cur_ho, cur_hb, cur_hf, curs_nil, curs_cons, Pu.frz1, Pu.Fl.free, sh_nil, sh_shr, putAt_ho, putAt_fr, bmf_clr, bmf_clrD, bmf_rev, nsts_ho, nsts_fr, nsts_shr, nsts_hb, nsts_hf, ta_nil, ta_shr, ta_ho, ta_hb, ta_hf, Pu.asn, Pu.asn.asns, Pu.wipeS, Pu.frzS, Pu.frz1S, Pu.bfn, Pu.bmT, Pu.dlf, Pu.kOf, bo_add, bo_sub, Pu.cmpo, Pu.truthy, Pu.isTy, Pu.isN, eq_ii, eq_ss, eq_bb, eq_nn, eq_is, eq_si, eq_ni, eq_in, eq_ns, eq_sn, eq_nb, eq_bn, eq_bs, eq_sb, Pu.item, i_0, i_1, i_2, i_3, i_4, Pu.iter, Pu.okIt, Pu.dOf, Pu.dOfs, List.set_cons_zero, List.set_cons_succ, List.getElem?_cons_zero, List.getElem?_cons_succ, List.length_cons, List.length_nil, Option.bind_some, Option.map_some, Option.isSome_some, Option.bind_none, Option.map_none, Option.getD_some, Bool.not_true, Bool.not_false, Va.str.injEq, Va.int.injEq, Va.bl.injEq, Bool.false_eq_true, Bool.true_and, Bool.and_true, Bool.false_and, Bool.and_false, decide_true, decide_false, if_true, if_false, ite_true, ite_false, reduceCtorEq, and_self, true_and, and_true, lc, mixed1, mixed2, bo_mod (b := 24) (by decide), neq, a1, a2, z00]
    · refine ⟨.sh (.int r1.first), .sh (.int r2.heard), ?_⟩
      generalize R.map Row.d = R0 at *
      generalize H.map Row.d = H0 at *
      simp only [Int.natCast_one] at lc ⊢
      simp only [turn_ap, lawC, b_f_law, e_v, e_k, e_g, e_tup, e_lst, e_dct0, e_bin, e_neg, e_nt, e_an, e_or, e_cmp, e_cmp2, e_call, e_mk, e_meth, e_bi, e_fld, e_ix, e_sl, e_ife, e_isx, e_dl, x_asg, x_par, x_fld, x_sub, x_retN, x_pass, x_ite, x_rse, x_try, x_tryn, x_frz, r_k, r_tup, r_lst, r_bin, r_neg, r_nt, r_an, r_or, r_cmp, r_cmp2, r_call, r_mk, r_meth, r_bi, r_ix, r_sl, r_ife, r_g, r_fld, r_comp, r_compR, r_dl, r_dct0, x_exC, x_exM, x_bm, x_retV, b_nil, b_cons, l_nil, l_cons, a_one, a_cons, o_one, o_cons, p_none, p_some, c_none, c_some, bi_ok, bi_exc, bl_ok, bl_exc, lb_ok, lb_exc, th_ok, th_exc, lt_ok, lt_exc, se_nx, se_rt, se_exc, en_nx, en_rt, en_exc, op_shr, op_fr, of_t, of_f, cur_shr, cur_fr, cur_ho, cur_hb, cur_hf, curs_nil, curs_cons, Pu.frz1, Pu.Fl.free, sh_nil, sh_shr, putAt_ho, putAt_fr, bmf_clr, bmf_clrD, bmf_rev, nsts_ho, nsts_fr, nsts_shr, nsts_hb, nsts_hf, ta_nil, ta_shr, ta_ho, ta_hb, ta_hf, Pu.asn, Pu.asn.asns, Pu.wipeS, Pu.frzS, Pu.frz1S, Pu.bfn, Pu.bmT, Pu.dlf, Pu.kOf, bo_add, bo_sub, Pu.cmpo, Pu.truthy, Pu.isTy, Pu.isN, eq_ii, eq_ss, eq_bb, eq_nn, eq_is, eq_si, eq_ni, eq_in, eq_ns, eq_sn, eq_nb, eq_bn, eq_bs, eq_sb, Pu.item, i_0, i_1, i_2, i_3, i_4, Pu.iter, Pu.okIt, Pu.dOf, Pu.dOfs, List.set_cons_zero, List.set_cons_succ, List.getElem?_cons_zero, List.getElem?_cons_succ, List.length_cons, List.length_nil, Option.bind_some, Option.map_some, Option.isSome_some, Option.bind_none, Option.map_none, Option.getD_some, Bool.not_true, Bool.not_false, Va.str.injEq, Va.int.injEq, Va.bl.injEq, Bool.false_eq_true, Bool.true_and, Bool.and_true, Bool.false_and, Bool.and_false, decide_true, decide_false, if_true, if_false, ite_true, ite_false, reduceCtorEq, and_self, true_and, and_true, lc, cell1, cell2, mixed1, mixed2, bo_mod (b := 24) (by decide), bo_mod l0, bo_fdiv (b := 2) ⟨by decide, by decide⟩, neq, a1, a2, z10, z11, e1, e2]
    · refine ⟨.sh (.int r1.last), .sh (.int r2.heard), ?_⟩
      generalize R.map Row.d = R0 at *
      generalize H.map Row.d = H0 at *
      have c2 : ((2 : Nat) : Int) = 2 := rfl
      simp only [c2] at lc ⊢
      simp only [turn_ap, lawC, b_f_law, e_v, e_k, e_g, e_tup, e_lst, e_dct0, e_bin, e_neg, e_nt, e_an, e_or, e_cmp, e_cmp2, e_call, e_mk, e_meth, e_bi, e_fld, e_ix, e_sl, e_ife, e_isx, e_dl, x_asg, x_par, x_fld, x_sub, x_retN, x_pass, x_ite, x_rse, x_try, x_tryn, x_frz, r_k, r_tup, r_lst, r_bin, r_neg, r_nt, r_an, r_or, r_cmp, r_cmp2, r_call, r_mk, r_meth, r_bi, r_ix, r_sl, r_ife, r_g, r_fld, r_comp, r_compR, r_dl, r_dct0, x_exC, x_exM, x_bm, x_retV, b_nil, b_cons, l_nil, l_cons, a_one, a_cons, o_one, o_cons, p_none, p_some, c_none, c_some, bi_ok, bi_exc, bl_ok, bl_exc, lb_ok, lb_exc, th_ok, th_exc, lt_ok, lt_exc, se_nx, se_rt, se_exc, en_nx, en_rt, en_exc, op_shr, op_fr, of_t, of_f, cur_shr, cur_fr, cur_ho, cur_hb, cur_hf, curs_nil, curs_cons, Pu.frz1, Pu.Fl.free, sh_nil, sh_shr, putAt_ho, putAt_fr, bmf_clr, bmf_clrD, bmf_rev, nsts_ho, nsts_fr, nsts_shr, nsts_hb, nsts_hf, ta_nil, ta_shr, ta_ho, ta_hb, ta_hf, Pu.asn, Pu.asn.asns, Pu.wipeS, Pu.frzS, Pu.frz1S, Pu.bfn, Pu.bmT, Pu.dlf, Pu.kOf, bo_add, bo_sub, Pu.cmpo, Pu.truthy, Pu.isTy, Pu.isN, eq_ii, eq_ss, eq_bb, eq_nn, eq_is, eq_si, eq_ni, eq_in, eq_ns, eq_sn, eq_nb, eq_bn, eq_bs, eq_sb, Pu.item, i_0, i_1, i_2, i_3, i_4, Pu.iter, Pu.okIt, Pu.dOf, Pu.dOfs, List.set_cons_zero, List.set_cons_succ, List.getElem?_cons_zero, List.getElem?_cons_succ, List.length_cons, List.length_nil, Option.bind_some, Option.map_some, Option.isSome_some, Option.bind_none, Option.map_none, Option.getD_some, Bool.not_true, Bool.not_false, Va.str.injEq, Va.int.injEq, Va.bl.injEq, Bool.false_eq_true, Bool.true_and, Bool.and_true, Bool.false_and, Bool.and_false, decide_true, decide_false, if_true, if_false, ite_true, ite_false, reduceCtorEq, and_self, true_and, and_true, lc, cell1, cell2, mixed1, mixed2, bo_mod (b := 24) (by decide), bo_mod l0, bo_fdiv (b := 2) ⟨by decide, by decide⟩, neq, a1, a2, z20, z12, e1, e2]
end K82
set_option Elab.async false
set_option linter.all false
set_option maxRecDepth 100000
set_option maxHeartbeats 4000000
namespace K82
open Pu
open Dl (Va Ex Sm Tg Fn sortV leV srtOk)
open PySem (Str sizeLine PyData)
theorem cut_map {α β : Type} {f : α → β} {l : List α} {lo hi : Option Int} : Dl.cut (l.map f) lo hi = (Dl.cut l lo hi).map f := by
  unfold Dl.cut
  rw [List.length_map, List.map_take, List.map_drop]
theorem cut_len {α : Type} {l : List α} : (Dl.cut l (some 3) (some 62)).length ≤ 59 := by
  unfold Dl.cut
  rw [List.length_take]
  have : Dl.sIx l.length l.length (some 62) - Dl.sIx l.length 0 (some 3) ≤ 59 := by
    unfold Dl.sIx
    simp only
    rw [if_neg (by decide), if_neg (by decide)]
    have e1 : (62 : Int).toNat = 62 := rfl
    have e2 : (3 : Int).toNat = 3 := rfl
    rw [e1, e2]
    omega
  omega
theorem init_ok {k : Nat} {O : Os} : Pu.run Q (k + 1) i_Book_init [.sh (.obj O.length)] (O ++ [⟨C_Book, []⟩]) = .ok .non .shr (O ++ [bk []]) := by
  rw [run_at (d := f_Book_init) rfl rfl]
  have g : (O ++ [(⟨C_Book, []⟩ : Oj)])[O.length]? = some ⟨C_Book, []⟩ := by simp
  have st : (O ++ [(⟨C_Book, []⟩ : Oj)]).set O.length (bk []) = O ++ [bk []] := by simp
  have lk : Pu.lkF F_known ([] : List (Nat × D)) = none := rfl
  have pf : (⟨C_Book, Pu.putF F_known (.dct []) []⟩ : Oj) = bk [] := rfl
  simp only [f_Book_init, b_f_Book_init, Pu.begin_, List.map_cons, List.map_nil, List.drop_nil, List.append_nil, List.nil_append, List.replicate, List.cons_append, e_v, e_k, e_g, e_tup, e_lst, e_dct0, e_bin, e_neg, e_nt, e_an, e_or, e_cmp, e_cmp2, e_call, e_mk, e_meth, e_bi, e_fld, e_ix, e_sl, e_ife, e_isx, e_dl, x_asg, x_par, x_fld, x_sub, x_retN, x_pass, x_ite, x_rse, x_try, x_tryn, x_frz, r_k, r_tup, r_lst, r_bin, r_neg, r_nt, r_an, r_or, r_cmp, r_cmp2, r_call, r_mk, r_meth, r_bi, r_ix, r_sl, r_ife, r_g, r_fld, r_comp, r_compR, r_dl, r_dct0, x_exC, x_exM, x_bm, x_retV, b_nil, b_cons, l_nil, l_cons, a_one, a_cons, o_one, o_cons, p_none, p_some, c_none, c_some, bi_ok, bi_exc, bl_ok, bl_exc, lb_ok, lb_exc, th_ok, th_exc, lt_ok, lt_exc, se_nx, se_rt, se_exc, en_nx, en_rt, en_exc, op_shr, op_fr, of_t, of_f, cur_shr, cur_fr, cur_ho, cur_hb, cur_hf, curs_nil, curs_cons, Pu.frz1, Pu.Fl.free, sh_nil, sh_shr, putAt_ho, putAt_fr, bmf_clr, bmf_clrD, bmf_rev, nsts_ho, nsts_fr, nsts_shr, nsts_hb, nsts_hf, ta_nil, ta_shr, ta_ho, ta_hb, ta_hf, Pu.asn, Pu.asn.asns, Pu.wipeS, Pu.frzS, Pu.frz1S, Pu.bfn, Pu.bmT, Pu.dlf, Pu.kOf, bo_add, bo_sub, Pu.cmpo, Pu.truthy, Pu.isTy, Pu.isN, eq_ii, eq_ss, eq_bb, eq_nn, eq_is, eq_si, eq_ni, eq_in, eq_ns, eq_sn, eq_nb, eq_bn, eq_bs, eq_sb, Pu.item, i_0, i_1, i_2, i_3, i_4, Pu.iter, Pu.okIt, Pu.dOf, Pu.dOfs, List.set_cons_zero, List.set_cons_succ, List.getElem?_cons_zero, List.getElem?_cons_succ, List.length_cons, List.length_nil, Option.bind_some, Option.map_some, Option.isSome_some, Option.bind_none, Option.map_none, Option.getD_some, Bool.not_true, Bool.not_false, Va.str.injEq, Va.int.injEq, Va.bl.injEq, Bool.false_eq_true, Bool.true_and, Bool.and_true, Bool.false_and, Bool.and_false, decide_true, decide_false, if_true, if_false, ite_true, ite_false, reduceCtorEq, and_self, true_and, and_true, g, cl_Book, mut_known, lk, Pu.isFr, Option.isNone_none, pf, st]
  simp [kl_Book, e_v, e_k, e_g, e_tup, e_lst, e_dct0, e_bin, e_neg, e_nt, e_an, e_or, e_cmp, e_cmp2, e_call, e_mk, e_meth, e_bi, e_fld, e_ix, e_sl, e_ife, e_isx, e_dl, x_asg, x_par, x_fld, x_sub, x_retN, x_pass, x_ite, x_rse, x_try, x_tryn, x_frz, r_k, r_tup, r_lst, r_bin, r_neg, r_nt, r_an, r_or, r_cmp, r_cmp2, r_call, r_mk, r_meth, r_bi, r_ix, r_sl, r_ife, r_g, r_fld, r_comp, r_compR, r_dl, r_dct0, x_exC, x_exM, x_bm, x_retV, b_nil, b_cons, l_nil, l_cons, a_one, a_cons, o_one, o_cons, p_none, p_some, c_none, c_some, bi_ok, bi_exc, bl_ok, bl_exc, lb_ok, lb_exc, th_ok, th_exc, lt_ok, lt_exc, se_nx, se_rt, se_exc, en_nx, en_rt, en_exc, op_shr, op_fr, of_t, of_f, cur_shr, cur_fr, cur_ho, cur_hb, cur_hf, curs_nil, curs_cons, Pu.frz1, Pu.Fl.free, sh_nil, sh_shr, putAt_ho, putAt_fr, bmf_clr, bmf_clrD, bmf_rev, nsts_ho, nsts_fr, nsts_shr, nsts_hb, nsts_hf, ta_nil, ta_shr, ta_ho, ta_hb, ta_hf, Pu.asn, Pu.asn.asns, Pu.wipeS, Pu.frzS, Pu.frz1S, Pu.bfn, Pu.bmT, Pu.dlf, Pu.kOf, bo_add, bo_sub, Pu.cmpo, Pu.truthy, Pu.isTy, Pu.isN, eq_ii, eq_ss, eq_bb, eq_nn, eq_is, eq_si, eq_ni, eq_in, eq_ns, eq_sn, eq_nb, eq_bn, eq_bs, eq_sb, Pu.item, i_0, i_1, i_2, i_3, i_4, Pu.iter, Pu.okIt, Pu.dOf, Pu.dOfs, List.set_cons_zero, List.set_cons_succ, List.getElem?_cons_zero, List.getElem?_cons_succ, List.length_cons, List.length_nil, Option.bind_some, Option.map_some, Option.isSome_some, Option.bind_none, Option.map_none, Option.getD_some, Bool.not_true, Bool.not_false, Va.str.injEq, Va.int.injEq, Va.bl.injEq, Bool.false_eq_true, Bool.true_and, Bool.and_true, Bool.false_and, Bool.and_false, decide_true, decide_false, if_true, if_false, ite_true, ite_false, reduceCtorEq, and_self, true_and, and_true]
theorem init0 {k : Nat} : Pu.run Q (k + 1) i_Book_init [.sh (.obj 0)] [⟨C_Book, []⟩] = .ok .non .shr [bk []] := init_ok (O := [])
theorem init1 {k : Nat} : Pu.run Q (k + 1) i_Book_init [.sh (.obj 1)] [bk [], ⟨C_Book, []⟩] = .ok .non .shr [bk [], bk []] := init_ok (O := [bk []])
theorem law_pu {ns : List Int} (hn : ns.length ≤ 63) : ∃ fl O, Pu.run Q 7 i_law [.sh (.rl (ns.map .int))] [] = .ok (.bl true) fl O := by
  rw [run_at (k := 6) (d := f_law) rfl rfl]
  obtain ⟨L, eL, pL⟩ := pool_ok (k := 4) (c := cell ns 0) (O := [])
  have hC : (Dl.cut ns (some 3) (some 62)).length ≤ 59 := cut_len
  have spn : ∃ sp : Int, 0 < sp ∧ Dl.atI [D.int 4, .int 24] ((cell ns 1).fmod 2) = some (.int sp) := by
    rcases mod2 (cell ns 1) with e | e
    · exact ⟨4, by decide, by rw [e, i_0]⟩
    · exact ⟨24, by decide, by rw [e, i_1]⟩
  obtain ⟨sp, spp, esp⟩ := spn
  obtain ⟨R, eR, nd, ok, lR⟩ := news_rows (k := 3) (O := []) pL (C := Dl.cut ns (some 3) (some 62)) (by omega) spp
  have lR : R.length ≤ 59 := by omega
  have ln0 : ((R.map Row.d).length : Int) + 1 ≠ 0 := by omega
  have sl : slc (.rl (ns.map .int)) (some 3) (some 62) = some (.lst ((Dl.cut ns (some 3) (some 62)).map .int), true) := by
    unfold slc
    dsimp only
    rw [cut_map]
  obtain ⟨s1, O1, e1, H, t0, t1, z9, z10, z11, rfl, rfl, hH⟩ := goS_inv (st := fun _ => true) (f := turnS (cf 6) (.nm 9) lawB) (fun p s O' => ∃ (H : List Row) (t0 t1 : Int) (z9 z10 z11 : Sl), s = [.sh (.rl (ns.map .int)), .ow (.lst (L.map .str)), .ow (.lst (R.map Row.d)), .sh (.obj 0), .sh (.obj 1), .ow (.lst ((R.take p.length).map Row.d)), .ow (.lst (H.map Row.d)), .sh (.int ((cell ns 2).fmod ((R.map Row.d).length + 1))), .sh (.tup [.int t0, .int t1]), z9, z10, z11, .no, .no] ∧
      O' = [bk (R.take p.length), bk H] ∧ H.Sublist (R.take p.length)) (l := rangeI 0 R.length) (s := [.sh (.rl (ns.map .int)), .ow (.lst (L.map .str)), .ow (.lst (R.map Row.d)), .sh (.obj 0), .sh (.obj 1), .ow (.lst []), .ow (.lst []), .sh (.int ((cell ns 2).fmod ((R.map Row.d).length + 1))), .sh (.tup [.int 0, .int 0]), .no, .no, .no, .no, .no]) (O := [bk [], bk []])
      ⟨[], 0, 0, .no, .no, .no, rfl, rfl, List.Sublist.refl _⟩ (fun _ _ _ _ => rfl) fun p x q e s O' ⟨H, t0, t1, z9, z10, z11, es, eO, hH⟩ => by
    subst es eO
    obtain ⟨rfl, lt⟩ := rangeI_split e
    have z : (0 : Int) + (p.length : Int) = (p.length : Int) := by omega
    have lp : (R.take p.length).length = p.length := by rw [List.length_take]; omega
    have er : R = R.take p.length ++ R[p.length] :: R.drop (p.length + 1) := by
      rw [List.getElem_cons_drop, List.take_append_drop]
    obtain ⟨H', u0, u1, w9, w10, w11, t, hs⟩ := turn1 (k := 0) (sc := .rl (ns.map .int)) (pl := .ow (.lst (L.map .str))) (H := H) (stop := (cell ns 2).fmod ((R.map Row.d).length + 1)) (s0 := t0) (s1 := t1) (y9 := z9) (y10 := z10) (y11 := z11) (y12 := .no) (y13 := .no) nd ok lR er hH
    rw [lp] at t
    have tk : R.take (p ++ [D.int (0 + (p.length : Int))]).length = R.take p.length ++ [R[p.length]] := by
      rw [List.length_append, List.length_singleton, List.take_add_one, List.getElem?_eq_getElem lt]
      rfl
    rw [z] at tk ⊢
    refine ⟨_, _, t, H', u0, u1, w9, w10, w11, ?_, ?_, ?_⟩
    · rw [tk]
    · rw [tk]
    · rw [tk]; exact hs
  rw [rangeI_len, List.take_length] at hH e1
  have c1 := x_frR (C := cf 6) (t := .nm 9) (es := [.bi .len [.v 2]]) (b := lawB) (s := [.sh (.rl (ns.map .int)), .ow (.lst (L.map .str)), .ow (.lst (R.map Row.d)), .sh (.obj 0), .sh (.obj 1), .ow (.lst []), .ow (.lst []), .sh (.int ((cell ns 2).fmod ((R.map Row.d).length + 1))), .sh (.tup [.int 0, .int 0]), .no, .no, .no, .no, .no]) (O := [bk [], bk []]) (O1 := [bk [], bk []]) (vs := [(.int R.length, .shr)]) (by simp only [e_v, e_k, e_g, e_tup, e_lst, e_dct0, e_bin, e_neg, e_nt, e_an, e_or, e_cmp, e_cmp2, e_call, e_mk, e_meth, e_bi, e_fld, e_ix, e_sl, e_ife, e_isx, e_dl, x_asg, x_par, x_fld, x_sub, x_retN, x_pass, x_ite, x_rse, x_try, x_tryn, x_frz, r_k, r_tup, r_lst, r_bin, r_neg, r_nt, r_an, r_or, r_cmp, r_cmp2, r_call, r_mk, r_meth, r_bi, r_ix, r_sl, r_ife, r_g, r_fld, r_comp, r_compR, r_dl, r_dct0, x_exC, x_exM, x_bm, x_retV, b_nil, b_cons, l_nil, l_cons, a_one, a_cons, o_one, o_cons, p_none, p_some, c_none, c_some, bi_ok, bi_exc, bl_ok, bl_exc, lb_ok, lb_exc, th_ok, th_exc, lt_ok, lt_exc, se_nx, se_rt, se_exc, en_nx, en_rt, en_exc, op_shr, op_fr, of_t, of_f, cur_shr, cur_fr, cur_ho, cur_hb, cur_hf, curs_nil, curs_cons, Pu.frz1, Pu.Fl.free, sh_nil, sh_shr, putAt_ho, putAt_fr, bmf_clr, bmf_clrD, bmf_rev, nsts_ho, nsts_fr, nsts_shr, nsts_hb, nsts_hf, ta_nil, ta_shr, ta_ho, ta_hb, ta_hf, Pu.asn, Pu.asn.asns, Pu.wipeS, Pu.frzS, Pu.frz1S, Pu.bfn, Pu.bmT, Pu.dlf, Pu.kOf, bo_add, bo_sub, Pu.cmpo, Pu.truthy, Pu.isTy, Pu.isN, eq_ii, eq_ss, eq_bb, eq_nn, eq_is, eq_si, eq_ni, eq_in, eq_ns, eq_sn, eq_nb, eq_bn, eq_bs, eq_sb, Pu.item, i_0, i_1, i_2, i_3, i_4, Pu.iter, Pu.okIt, Pu.dOf, Pu.dOfs, List.set_cons_zero, List.set_cons_succ, List.getElem?_cons_zero, List.getElem?_cons_succ, List.length_cons, List.length_nil, Option.bind_some, Option.map_some, Option.isSome_some, Option.bind_none, Option.map_none, Option.getD_some, Bool.not_true, Bool.not_false, Va.str.injEq, Va.int.injEq, Va.bl.injEq, Bool.false_eq_true, Bool.true_and, Bool.and_true, Bool.false_and, Bool.and_false, decide_true, decide_false, if_true, if_false, ite_true, ite_false, reduceCtorEq, and_self, true_and, and_true, List.length_map]) (rng_nat (n := R.length) (by omega))
  rw [e1] at c1
  have al := alike_ok (k := 3) (m := t0) (c := t1) (O := [bk R, bk H]) (b := 0) rfl nd ok (by omega)
  obtain ⟨s2, O2, e2, w9, w12, w13, rfl, rfl⟩ := goS_inv (st := fun _ => true) (f := turnS (cf 6) (.nm 9) lawC) (fun p s O' => ∃ w9 w12 w13 : Sl, s = [.sh (.rl (ns.map .int)), .ow (.lst (L.map .str)), .ow (.lst (R.map Row.d)), .sh (.obj 0), .sh (.obj 1), .ow (.lst (R.map Row.d)), .ow (.lst (H.map Row.d)), .sh (.int ((cell ns 2).fmod ((R.map Row.d).length + 1))), .sh (.tup [.int t0, .int t1]), w9, z10, z11, w12, w13] ∧ O' = [bk R, bk H]) (l := rangeI 0 3)
      (s := [.sh (.rl (ns.map .int)), .ow (.lst (L.map .str)), .ow (.lst (R.map Row.d)), .sh (.obj 0), .sh (.obj 1), .ow (.lst (R.map Row.d)), .ow (.lst (H.map Row.d)), .sh (.int ((cell ns 2).fmod ((R.map Row.d).length + 1))), .sh (.tup [.int t0, .int t1]), z9, z10, z11, .no, .no]) (O := [bk R, bk H]) ⟨z9, .no, .no, rfl, rfl⟩ (fun _ _ _ _ => rfl) fun p x q e s O' ⟨w9, w12, w13, es, eO⟩ => by
    subst es eO
    obtain ⟨rfl, lt⟩ := rangeI_split e
    have z : (0 : Int) + (p.length : Int) = (p.length : Int) := by omega
    rw [z]
    obtain ⟨v12, v13, t⟩ := turn2 (k := 0) (i := p.length) (ns := ns) (pl := .ow (.lst (L.map .str))) (H := H) (y5 := .ow (.lst (R.map Row.d))) (y6 := .no) (y7 := .sh (.int ((cell ns 2).fmod ((R.map Row.d).length + 1)))) (y8 := .sh (.tup [.int t0, .int t1])) (y9 := w9) (y10 := z10) (y11 := z11) (y12 := w12) (y13 := w13) nd ok lR hH lt
    exact ⟨_, _, t, _, v12, v13, rfl, rfl⟩
  have c2 := x_frR (C := cf 6) (t := .nm 9) (es := [.k (.int 3)]) (b := lawC) (s := [.sh (.rl (ns.map .int)), .ow (.lst (L.map .str)), .ow (.lst (R.map Row.d)), .sh (.obj 0), .sh (.obj 1), .ow (.lst (R.map Row.d)), .ow (.lst (H.map Row.d)), .sh (.int ((cell ns 2).fmod ((R.map Row.d).length + 1))), .sh (.tup [.int t0, .int t1]), z9, z10, z11, .no, .no]) (O := [bk R, bk H]) (O1 := [bk R, bk H]) (vs := [(.int 3, .shr)]) (by simp only [e_v, e_k, e_g, e_tup, e_lst, e_dct0, e_bin, e_neg, e_nt, e_an, e_or, e_cmp, e_cmp2, e_call, e_mk, e_meth, e_bi, e_fld, e_ix, e_sl, e_ife, e_isx, e_dl, x_asg, x_par, x_fld, x_sub, x_retN, x_pass, x_ite, x_rse, x_try, x_tryn, x_frz, r_k, r_tup, r_lst, r_bin, r_neg, r_nt, r_an, r_or, r_cmp, r_cmp2, r_call, r_mk, r_meth, r_bi, r_ix, r_sl, r_ife, r_g, r_fld, r_comp, r_compR, r_dl, r_dct0, x_exC, x_exM, x_bm, x_retV, b_nil, b_cons, l_nil, l_cons, a_one, a_cons, o_one, o_cons, p_none, p_some, c_none, c_some, bi_ok, bi_exc, bl_ok, bl_exc, lb_ok, lb_exc, th_ok, th_exc, lt_ok, lt_exc, se_nx, se_rt, se_exc, en_nx, en_rt, en_exc, op_shr, op_fr, of_t, of_f, cur_shr, cur_fr, cur_ho, cur_hb, cur_hf, curs_nil, curs_cons, Pu.frz1, Pu.Fl.free, sh_nil, sh_shr, putAt_ho, putAt_fr, bmf_clr, bmf_clrD, bmf_rev, nsts_ho, nsts_fr, nsts_shr, nsts_hb, nsts_hf, ta_nil, ta_shr, ta_ho, ta_hb, ta_hf, Pu.asn, Pu.asn.asns, Pu.wipeS, Pu.frzS, Pu.frz1S, Pu.bfn, Pu.bmT, Pu.dlf, Pu.kOf, bo_add, bo_sub, Pu.cmpo, Pu.truthy, Pu.isTy, Pu.isN, eq_ii, eq_ss, eq_bb, eq_nn, eq_is, eq_si, eq_ni, eq_in, eq_ns, eq_sn, eq_nb, eq_bn, eq_bs, eq_sb, Pu.item, i_0, i_1, i_2, i_3, i_4, Pu.iter, Pu.okIt, Pu.dOf, Pu.dOfs, List.set_cons_zero, List.set_cons_succ, List.getElem?_cons_zero, List.getElem?_cons_succ, List.length_cons, List.length_nil, Option.bind_some, Option.map_some, Option.isSome_some, Option.bind_none, Option.map_none, Option.getD_some, Bool.not_true, Bool.not_false, Va.str.injEq, Va.int.injEq, Va.bl.injEq, Bool.false_eq_true, Bool.true_and, Bool.and_true, Bool.false_and, Bool.and_false, decide_true, decide_false, if_true, if_false, ite_true, ite_false, reduceCtorEq, and_self, true_and, and_true]) (rng_nat (n := 3) (by decide))
  rw [e2] at c2
  unfold lawB b_f_law at c1
  unfold lawC b_f_law at c2
  refine ⟨.shr, [bk R, bk H], ?_⟩
  generalize R.map Row.d = R0 at *
  generalize H.map Row.d = H0 at *
  simp only [f_law, b_f_law, Pu.begin_, List.map_cons, List.map_nil, List.drop_nil, List.append_nil, List.nil_append, List.replicate, List.cons_append, e_v, e_k, e_g, e_tup, e_lst, e_dct0, e_bin, e_neg, e_nt, e_an, e_or, e_cmp, e_cmp2, e_call, e_mk, e_meth, e_bi, e_fld, e_ix, e_sl, e_ife, e_isx, e_dl, x_asg, x_par, x_fld, x_sub, x_retN, x_pass, x_ite, x_rse, x_try, x_tryn, x_frz, r_k, r_tup, r_lst, r_bin, r_neg, r_nt, r_an, r_or, r_cmp, r_cmp2, r_call, r_mk, r_meth, r_bi, r_ix, r_sl, r_ife, r_g, r_fld, r_comp, r_compR, r_dl, r_dct0, x_exC, x_exM, x_bm, x_retV, b_nil, b_cons, l_nil, l_cons, a_one, a_cons, o_one, o_cons, p_none, p_some, c_none, c_some, bi_ok, bi_exc, bl_ok, bl_exc, lb_ok, lb_exc, th_ok, th_exc, lt_ok, lt_exc, se_nx, se_rt, se_exc, en_nx, en_rt, en_exc, op_shr, op_fr, of_t, of_f, cur_shr, cur_fr, cur_ho, cur_hb, cur_hf, curs_nil, curs_cons, Pu.frz1, Pu.Fl.free, sh_nil, sh_shr, putAt_ho, putAt_fr, bmf_clr, bmf_clrD, bmf_rev, nsts_ho, nsts_fr, nsts_shr, nsts_hb, nsts_hf, ta_nil, ta_shr, ta_ho, ta_hb, ta_hf, Pu.asn, Pu.asn.asns, Pu.wipeS, Pu.frzS, Pu.frz1S, Pu.bfn, Pu.bmT, Pu.dlf, Pu.kOf, bo_add, bo_sub, Pu.cmpo, Pu.truthy, Pu.isTy, Pu.isN, eq_ii, eq_ss, eq_bb, eq_nn, eq_is, eq_si, eq_ni, eq_in, eq_ns, eq_sn, eq_nb, eq_bn, eq_bs, eq_sb, Pu.item, i_0, i_1, i_2, i_3, i_4, Pu.iter, Pu.okIt, Pu.dOf, Pu.dOfs, List.set_cons_zero, List.set_cons_succ, List.getElem?_cons_zero, List.getElem?_cons_succ, List.length_cons, List.length_nil, Option.bind_some, Option.map_some, Option.isSome_some, Option.bind_none, Option.map_none, Option.getD_some, Bool.not_true, Bool.not_false, Va.str.injEq, Va.int.injEq, Va.bl.injEq, Bool.false_eq_true, Bool.true_and, Bool.and_true, Bool.false_and, Bool.and_false, decide_true, decide_false, if_true, if_false, ite_true, ite_false, reduceCtorEq, and_self, true_and, and_true, cell0, cell1, cell2, eL, sl, bo_mod (b := 2) (by decide), esp, eR, cl_Book, in_Book, init0, init1, Nat.zero_add, bo_mod ln0, c1, al, c2]
end K82
set_option Elab.async false
set_option linter.all false
namespace K82
open Dl
def KK : Nat := 7
theorem law_true : ∀ ns : List Int, ns.length ≤ 63 → ∃ h', Dl.run P KK i_law [.rl (ns.map .int)] [] = .ok (.bl true) h' := fun ns hn => by
  obtain ⟨fl, O, e⟩ := law_pu hn
  exact Pu.law_of pr e
end K82
set_option Elab.async false
set_option linter.all false
set_option maxRecDepth 100000
set_option maxHeartbeats 0
/-! law_k82_standing_and_told: what the top has written. -/
namespace K82
open PySem L2 Dl
theorem scp_f_is_name : FnScope N_f_is_name P_f_is_name (defScope s_f_is_name) := ⟨by decide +kernel, by decide +kernel, by decide +kernel, by decide +kernel, by decide +kernel, by decide +kernel, by decide +kernel⟩
theorem scp_f_is_within : FnScope N_f_is_within P_f_is_within (defScope s_f_is_within) := ⟨by decide +kernel, by decide +kernel, by decide +kernel, by decide +kernel, by decide +kernel, by decide +kernel, by decide +kernel⟩
theorem scp_f_person : FnScope N_f_person P_f_person (defScope s_f_person) := ⟨by decide +kernel, by decide +kernel, by decide +kernel, by decide +kernel, by decide +kernel, by decide +kernel, by decide +kernel⟩
theorem scp_f_is_whole_to : FnScope N_f_is_whole_to P_f_is_whole_to (defScope s_f_is_whole_to) := ⟨by decide +kernel, by decide +kernel, by decide +kernel, by decide +kernel, by decide +kernel, by decide +kernel, by decide +kernel⟩
theorem scp_f_is_of_person : FnScope N_f_is_of_person P_f_is_of_person (defScope s_f_is_of_person) := ⟨by decide +kernel, by decide +kernel, by decide +kernel, by decide +kernel, by decide +kernel, by decide +kernel, by decide +kernel⟩
theorem scp_f_is_fact : FnScope N_f_is_fact P_f_is_fact (defScope s_f_is_fact) := ⟨by decide +kernel, by decide +kernel, by decide +kernel, by decide +kernel, by decide +kernel, by decide +kernel, by decide +kernel⟩
theorem scp_f_news : FnScope N_f_news P_f_news (defScope s_f_news) := ⟨by decide +kernel, by decide +kernel, by decide +kernel, by decide +kernel, by decide +kernel, by decide +kernel, by decide +kernel⟩
theorem scp_f_matter : FnScope N_f_matter P_f_matter (defScope s_f_matter) := ⟨by decide +kernel, by decide +kernel, by decide +kernel, by decide +kernel, by decide +kernel, by decide +kernel, by decide +kernel⟩
theorem scp_f__law_cell : FnScope N_f__law_cell P_f__law_cell (defScope s_f__law_cell) := ⟨by decide +kernel, by decide +kernel, by decide +kernel, by decide +kernel, by decide +kernel, by decide +kernel, by decide +kernel⟩
theorem scp_f__law_mixed : FnScope N_f__law_mixed P_f__law_mixed (defScope s_f__law_mixed) := ⟨by decide +kernel, by decide +kernel, by decide +kernel, by decide +kernel, by decide +kernel, by decide +kernel, by decide +kernel⟩
theorem scp_f__law_pool : FnScope N_f__law_pool P_f__law_pool (defScope s_f__law_pool) := ⟨by decide +kernel, by decide +kernel, by decide +kernel, by decide +kernel, by decide +kernel, by decide +kernel, by decide +kernel⟩
theorem scp_f__law_fact : FnScope N_f__law_fact P_f__law_fact (defScope s_f__law_fact) := ⟨by decide +kernel, by decide +kernel, by decide +kernel, by decide +kernel, by decide +kernel, by decide +kernel, by decide +kernel⟩
theorem scp_f__law_matter : FnScope N_f__law_matter P_f__law_matter (defScope s_f__law_matter) := ⟨by decide +kernel, by decide +kernel, by decide +kernel, by decide +kernel, by decide +kernel, by decide +kernel, by decide +kernel⟩
theorem scp_f__law_news : FnScope N_f__law_news P_f__law_news (defScope s_f__law_news) := ⟨by decide +kernel, by decide +kernel, by decide +kernel, by decide +kernel, by decide +kernel, by decide +kernel, by decide +kernel⟩
theorem scp_f__law_months : FnScope N_f__law_months P_f__law_months (defScope s_f__law_months) := ⟨by decide +kernel, by decide +kernel, by decide +kernel, by decide +kernel, by decide +kernel, by decide +kernel, by decide +kernel⟩
theorem scp_f__law_stands : FnScope N_f__law_stands P_f__law_stands (defScope s_f__law_stands) := ⟨by decide +kernel, by decide +kernel, by decide +kernel, by decide +kernel, by decide +kernel, by decide +kernel, by decide +kernel⟩
theorem scp_f__law_alike : FnScope N_f__law_alike P_f__law_alike (defScope s_f__law_alike) := ⟨by decide +kernel, by decide +kernel, by decide +kernel, by decide +kernel, by decide +kernel, by decide +kernel, by decide +kernel⟩
theorem scp_f_law : FnScope N_f_law P_f_law (defScope s_f_law) := ⟨by decide +kernel, by decide +kernel, by decide +kernel, by decide +kernel, by decide +kernel, by decide +kernel, by decide +kernel⟩
theorem scp_f_Book_init : FnScope N_f_Book_init P_f_Book_init (defScope s_f_Book_init) := ⟨by decide +kernel, by decide +kernel, by decide +kernel, by decide +kernel, by decide +kernel, by decide +kernel, by decide +kernel⟩
theorem scp_f_Book_tell : FnScope N_f_Book_tell P_f_Book_tell (defScope s_f_Book_tell) := ⟨by decide +kernel, by decide +kernel, by decide +kernel, by decide +kernel, by decide +kernel, by decide +kernel, by decide +kernel⟩
theorem scp_f_Book_told : FnScope N_f_Book_told P_f_Book_told (defScope s_f_Book_told) := ⟨by decide +kernel, by decide +kernel, by decide +kernel, by decide +kernel, by decide +kernel, by decide +kernel, by decide +kernel⟩
theorem scp_f_Book_standing : FnScope N_f_Book_standing P_f_Book_standing (defScope s_f_Book_standing) := ⟨by decide +kernel, by decide +kernel, by decide +kernel, by decide +kernel, by decide +kernel, by decide +kernel, by decide +kernel⟩
theorem mf_ : ∀ x ∈ M.mth, x ∉ M.fld := by decide +kernel
theorem nf_ : M.fld.Nodup := by decide +kernel
theorem all_mk {l : PySem.W.OpenLaw} {w : World} {K : PySem.W.Frag} {h : Heap} {mg : Str → Option Value} {fa C0 f0 f1 f2 f3 f4 f5 f6 f7 f8 f9 f10 f11 f12 f13 f14 f15 f16 f17 f18 f19 f20 f21 : Addr} {t0 t1 t2 t3 t4 t5 t6 : Tok} (X : K.In h) (G : h.Ns mainGlobals mg) (hfa : mg "law" = some (.ref fa))
    {od0 an0 : Option Addr} {sl0 : Array (Option Value)} {oc0 kV0 dc0 pm0 cd0 ct0 : Value}
    {od1 an1 : Option Addr} {sl1 : Array (Option Value)} {oc1 kV1 dc1 pm1 cd1 ct1 : Value}
    {od2 an2 : Option Addr} {sl2 : Array (Option Value)} {oc2 kV2 dc2 pm2 cd2 ct2 : Value}
    {od3 an3 : Option Addr} {sl3 : Array (Option Value)} {oc3 kV3 dc3 pm3 cd3 ct3 : Value}
    {od4 an4 : Option Addr} {sl4 : Array (Option Value)} {oc4 kV4 dc4 pm4 cd4 ct4 : Value}
    {od5 an5 : Option Addr} {sl5 : Array (Option Value)} {oc5 kV5 dc5 pm5 cd5 ct5 : Value}
    {od6 an6 : Option Addr} {sl6 : Array (Option Value)} {oc6 kV6 dc6 pm6 cd6 ct6 : Value}
    {od7 an7 : Option Addr} {sl7 : Array (Option Value)} {oc7 kV7 dc7 pm7 cd7 ct7 : Value}
    {od8 an8 : Option Addr} {sl8 : Array (Option Value)} {oc8 kV8 dc8 pm8 cd8 ct8 : Value}
    {od9 an9 : Option Addr} {sl9 : Array (Option Value)} {oc9 kV9 dc9 pm9 cd9 ct9 : Value}
    {od10 an10 : Option Addr} {sl10 : Array (Option Value)} {oc10 kV10 dc10 pm10 cd10 ct10 : Value}
    {od11 an11 : Option Addr} {sl11 : Array (Option Value)} {oc11 kV11 dc11 pm11 cd11 ct11 : Value}
    {od12 an12 : Option Addr} {sl12 : Array (Option Value)} {oc12 kV12 dc12 pm12 cd12 ct12 : Value}
    {od13 an13 : Option Addr} {sl13 : Array (Option Value)} {oc13 kV13 dc13 pm13 cd13 ct13 : Value}
    {od14 an14 : Option Addr} {sl14 : Array (Option Value)} {oc14 kV14 dc14 pm14 cd14 ct14 : Value}
    {od15 an15 : Option Addr} {sl15 : Array (Option Value)} {oc15 kV15 dc15 pm15 cd15 ct15 : Value}
    {od16 an16 : Option Addr} {sl16 : Array (Option Value)} {oc16 kV16 dc16 pm16 cd16 ct16 : Value}
    {od17 an17 : Option Addr} {sl17 : Array (Option Value)} {oc17 kV17 dc17 pm17 cd17 ct17 : Value}
    {od18 an18 : Option Addr} {sl18 : Array (Option Value)} {oc18 kV18 dc18 pm18 cd18 ct18 : Value}
    {od19 an19 : Option Addr} {sl19 : Array (Option Value)} {oc19 kV19 dc19 pm19 cd19 ct19 : Value}
    {od20 an20 : Option Addr} {sl20 : Array (Option Value)} {oc20 kV20 dc20 pm20 cd20 ct20 : Value}
    {od21 an21 : Option Addr} {sl21 : Array (Option Value)} {oc21 kV21 dc21 pm21 cd21 ct21 : Value}
    (aC0 : PySem.W.nsIn K mainGlobals "Book" = some (some (.ref C0)))
    (a0 : PySem.W.nsIn K mainGlobals "is_name" = some (some (.ref f0)))
    (l0 : K.lookup f0 = some ⟨oc0, od0, .func (PySem.W.fnOf "is_name" "is_name" (defArgs s_f_is_name) (defBody s_f_is_name) (defScope s_f_is_name) .none kV0 dc0 pm0 an0 cd0 ct0), sl0⟩)
    (c0 : PySem.W.codeIn K cd0 "is_name" = true)
    (k0 : PySem.W.keepIn K (.ref f0) = true)
    (a1 : PySem.W.nsIn K mainGlobals "is_within" = some (some (.ref f1)))
    (l1 : K.lookup f1 = some ⟨oc1, od1, .func (PySem.W.fnOf "is_within" "is_within" (defArgs s_f_is_within) (defBody s_f_is_within) (defScope s_f_is_within) .none kV1 dc1 pm1 an1 cd1 ct1), sl1⟩)
    (c1 : PySem.W.codeIn K cd1 "is_within" = true)
    (k1 : PySem.W.keepIn K (.ref f1) = true)
    (a2 : PySem.W.nsIn K mainGlobals "person" = some (some (.ref f2)))
    (l2 : K.lookup f2 = some ⟨oc2, od2, .func (PySem.W.fnOf "person" "person" (defArgs s_f_person) (defBody s_f_person) (defScope s_f_person) .none kV2 dc2 pm2 an2 cd2 ct2), sl2⟩)
    (c2 : PySem.W.codeIn K cd2 "person" = true)
    (k2 : PySem.W.keepIn K (.ref f2) = true)
    (a3 : PySem.W.nsIn K mainGlobals "is_whole_to" = some (some (.ref f3)))
    (l3 : K.lookup f3 = some ⟨oc3, od3, .func (PySem.W.fnOf "is_whole_to" "is_whole_to" (defArgs s_f_is_whole_to) (defBody s_f_is_whole_to) (defScope s_f_is_whole_to) .none kV3 dc3 pm3 an3 cd3 ct3), sl3⟩)
    (c3 : PySem.W.codeIn K cd3 "is_whole_to" = true)
    (k3 : PySem.W.keepIn K (.ref f3) = true)
    (a4 : PySem.W.nsIn K mainGlobals "is_of_person" = some (some (.ref f4)))
    (l4 : K.lookup f4 = some ⟨oc4, od4, .func (PySem.W.fnOf "is_of_person" "is_of_person" (defArgs s_f_is_of_person) (defBody s_f_is_of_person) (defScope s_f_is_of_person) .none kV4 dc4 pm4 an4 cd4 ct4), sl4⟩)
    (c4 : PySem.W.codeIn K cd4 "is_of_person" = true)
    (k4 : PySem.W.keepIn K (.ref f4) = true)
    (a5 : PySem.W.nsIn K mainGlobals "is_fact" = some (some (.ref f5)))
    (l5 : K.lookup f5 = some ⟨oc5, od5, .func (PySem.W.fnOf "is_fact" "is_fact" (defArgs s_f_is_fact) (defBody s_f_is_fact) (defScope s_f_is_fact) .none kV5 dc5 pm5 an5 cd5 ct5), sl5⟩)
    (c5 : PySem.W.codeIn K cd5 "is_fact" = true)
    (k5 : PySem.W.keepIn K (.ref f5) = true)
    (a6 : PySem.W.nsIn K mainGlobals "news" = some (some (.ref f6)))
    (l6 : K.lookup f6 = some ⟨oc6, od6, .func (PySem.W.fnOf "news" "news" (defArgs s_f_news) (defBody s_f_news) (defScope s_f_news) .none kV6 dc6 pm6 an6 cd6 ct6), sl6⟩)
    (c6 : PySem.W.codeIn K cd6 "news" = true)
    (k6 : PySem.W.keepIn K (.ref f6) = true)
    (a7 : PySem.W.nsIn K mainGlobals "matter" = some (some (.ref f7)))
    (l7 : K.lookup f7 = some ⟨oc7, od7, .func (PySem.W.fnOf "matter" "matter" (defArgs s_f_matter) (defBody s_f_matter) (defScope s_f_matter) .none kV7 dc7 pm7 an7 cd7 ct7), sl7⟩)
    (c7 : PySem.W.codeIn K cd7 "matter" = true)
    (k7 : PySem.W.keepIn K (.ref f7) = true)
    (a8 : PySem.W.nsIn K mainGlobals "_law_cell" = some (some (.ref f8)))
    (l8 : K.lookup f8 = some ⟨oc8, od8, .func (PySem.W.fnOf "_law_cell" "_law_cell" (defArgs s_f__law_cell) (defBody s_f__law_cell) (defScope s_f__law_cell) .none kV8 dc8 pm8 an8 cd8 ct8), sl8⟩)
    (c8 : PySem.W.codeIn K cd8 "_law_cell" = true)
    (k8 : PySem.W.keepIn K (.ref f8) = true)
    (a9 : PySem.W.nsIn K mainGlobals "_law_mixed" = some (some (.ref f9)))
    (l9 : K.lookup f9 = some ⟨oc9, od9, .func (PySem.W.fnOf "_law_mixed" "_law_mixed" (defArgs s_f__law_mixed) (defBody s_f__law_mixed) (defScope s_f__law_mixed) .none kV9 dc9 pm9 an9 cd9 ct9), sl9⟩)
    (c9 : PySem.W.codeIn K cd9 "_law_mixed" = true)
    (k9 : PySem.W.keepIn K (.ref f9) = true)
    (a10 : PySem.W.nsIn K mainGlobals "_law_pool" = some (some (.ref f10)))
    (l10 : K.lookup f10 = some ⟨oc10, od10, .func (PySem.W.fnOf "_law_pool" "_law_pool" (defArgs s_f__law_pool) (defBody s_f__law_pool) (defScope s_f__law_pool) .none kV10 dc10 pm10 an10 cd10 ct10), sl10⟩)
    (c10 : PySem.W.codeIn K cd10 "_law_pool" = true)
    (k10 : PySem.W.keepIn K (.ref f10) = true)
    (a11 : PySem.W.nsIn K mainGlobals "_law_fact" = some (some (.ref f11)))
    (l11 : K.lookup f11 = some ⟨oc11, od11, .func (PySem.W.fnOf "_law_fact" "_law_fact" (defArgs s_f__law_fact) (defBody s_f__law_fact) (defScope s_f__law_fact) .none kV11 dc11 pm11 an11 cd11 ct11), sl11⟩)
    (c11 : PySem.W.codeIn K cd11 "_law_fact" = true)
    (k11 : PySem.W.keepIn K (.ref f11) = true)
    (a12 : PySem.W.nsIn K mainGlobals "_law_matter" = some (some (.ref f12)))
    (l12 : K.lookup f12 = some ⟨oc12, od12, .func (PySem.W.fnOf "_law_matter" "_law_matter" (defArgs s_f__law_matter) (defBody s_f__law_matter) (defScope s_f__law_matter) .none kV12 dc12 pm12 an12 cd12 ct12), sl12⟩)
    (c12 : PySem.W.codeIn K cd12 "_law_matter" = true)
    (k12 : PySem.W.keepIn K (.ref f12) = true)
    (a13 : PySem.W.nsIn K mainGlobals "_law_news" = some (some (.ref f13)))
    (l13 : K.lookup f13 = some ⟨oc13, od13, .func (PySem.W.fnOf "_law_news" "_law_news" (defArgs s_f__law_news) (defBody s_f__law_news) (defScope s_f__law_news) .none kV13 dc13 pm13 an13 cd13 ct13), sl13⟩)
    (c13 : PySem.W.codeIn K cd13 "_law_news" = true)
    (k13 : PySem.W.keepIn K (.ref f13) = true)
    (a14 : PySem.W.nsIn K mainGlobals "_law_months" = some (some (.ref f14)))
    (l14 : K.lookup f14 = some ⟨oc14, od14, .func (PySem.W.fnOf "_law_months" "_law_months" (defArgs s_f__law_months) (defBody s_f__law_months) (defScope s_f__law_months) .none kV14 dc14 pm14 an14 cd14 ct14), sl14⟩)
    (c14 : PySem.W.codeIn K cd14 "_law_months" = true)
    (k14 : PySem.W.keepIn K (.ref f14) = true)
    (a15 : PySem.W.nsIn K mainGlobals "_law_stands" = some (some (.ref f15)))
    (l15 : K.lookup f15 = some ⟨oc15, od15, .func (PySem.W.fnOf "_law_stands" "_law_stands" (defArgs s_f__law_stands) (defBody s_f__law_stands) (defScope s_f__law_stands) .none kV15 dc15 pm15 an15 cd15 ct15), sl15⟩)
    (c15 : PySem.W.codeIn K cd15 "_law_stands" = true)
    (k15 : PySem.W.keepIn K (.ref f15) = true)
    (a16 : PySem.W.nsIn K mainGlobals "_law_alike" = some (some (.ref f16)))
    (l16 : K.lookup f16 = some ⟨oc16, od16, .func (PySem.W.fnOf "_law_alike" "_law_alike" (defArgs s_f__law_alike) (defBody s_f__law_alike) (defScope s_f__law_alike) .none kV16 dc16 pm16 an16 cd16 ct16), sl16⟩)
    (c16 : PySem.W.codeIn K cd16 "_law_alike" = true)
    (k16 : PySem.W.keepIn K (.ref f16) = true)
    (a17 : PySem.W.nsIn K mainGlobals "law" = some (some (.ref f17)))
    (l17 : K.lookup f17 = some ⟨oc17, od17, .func (PySem.W.fnOf "law" "law" (defArgs s_f_law) (defBody s_f_law) (defScope s_f_law) .none kV17 dc17 pm17 an17 cd17 ct17), sl17⟩)
    (c17 : PySem.W.codeIn K cd17 "law" = true)
    (k17 : PySem.W.keepIn K (.ref f17) = true)
    (a18 : PySem.W.findIn K (.ref C0) "__init__" = some (some (.ref f18)))
    (i18 : PySem.W.isFn K (.ref f18) = true)
    (l18 : K.lookup f18 = some ⟨oc18, od18, .func (PySem.W.fnOf "__init__" "Book.__init__" (defArgs s_f_Book_init) (defBody s_f_Book_init) (defScope s_f_Book_init) .none kV18 dc18 pm18 an18 cd18 ct18), sl18⟩)
    (c18 : PySem.W.codeIn K cd18 "Book.__init__" = true)
    (k18 : PySem.W.keepIn K (.ref f18) = true)
    (a19 : PySem.W.findIn K (.ref C0) "tell" = some (some (.ref f19)))
    (i19 : PySem.W.isFn K (.ref f19) = true)
    (l19 : K.lookup f19 = some ⟨oc19, od19, .func (PySem.W.fnOf "tell" "Book.tell" (defArgs s_f_Book_tell) (defBody s_f_Book_tell) (defScope s_f_Book_tell) .none kV19 dc19 pm19 an19 cd19 ct19), sl19⟩)
    (c19 : PySem.W.codeIn K cd19 "Book.tell" = true)
    (k19 : PySem.W.keepIn K (.ref f19) = true)
    (a20 : PySem.W.findIn K (.ref C0) "told" = some (some (.ref f20)))
    (i20 : PySem.W.isFn K (.ref f20) = true)
    (l20 : K.lookup f20 = some ⟨oc20, od20, .func (PySem.W.fnOf "told" "Book.told" (defArgs s_f_Book_told) (defBody s_f_Book_told) (defScope s_f_Book_told) .none kV20 dc20 pm20 an20 cd20 ct20), sl20⟩)
    (c20 : PySem.W.codeIn K cd20 "Book.told" = true)
    (k20 : PySem.W.keepIn K (.ref f20) = true)
    (a21 : PySem.W.findIn K (.ref C0) "standing" = some (some (.ref f21)))
    (i21 : PySem.W.isFn K (.ref f21) = true)
    (l21 : K.lookup f21 = some ⟨oc21, od21, .func (PySem.W.fnOf "standing" "Book.standing" (defArgs s_f_Book_standing) (defBody s_f_Book_standing) (defScope s_f_Book_standing) .none kV21 dc21 pm21 an21 cd21 ct21), sl21⟩)
    (c21 : PySem.W.codeIn K cd21 "Book.standing" = true)
    (k21 : PySem.W.keepIn K (.ref f21) = true)
    (pg0 : PySem.W.plainGet K C0 Str.empty = true)
    (hd0 : PySem.W.hasDictIn K C0 = true)
    (po0 : PySem.W.plainOver K C0 = true)
    (sa0 : PySem.W.findIn K (.ref C0) "__setattr__" = some (some (.builtin "object.__setattr__")))
    (mk0 : PySem.W.makesIn K C0 = true)
    (kc0 : PySem.W.keepIn K (.ref C0) = true)
    (n0_0 : PySem.W.findIn K (.ref C0) "known" = some none)
    (glo0 : PySem.W.nsIn K mainGlobals "LONGEST" = some (some (.int 8 t0)))
    (glo1 : PySem.W.nsIn K mainGlobals "LETTERS" = some (some (.str "abcdefghijklmnopqrstuvwxyz" t1)))
    (glo2 : PySem.W.nsIn K mainGlobals "OLDEST" = some (some (.int 150 t2)))
    (glo3 : PySem.W.nsIn K mainGlobals "MOST" = some (some (.int 1000000000 t3)))
    (glo4 : PySem.W.nsIn K mainGlobals "MOST_NUMBER" = some (some (.int 1000000000 t4)))
    (glo5 : PySem.W.nsIn K mainGlobals "LAST_MONTH" = some (some (.int 23 t5)))
    (glo6 : PySem.W.nsIn K mainGlobals "MOST_NEWS" = some (some (.int 60 t6)))
    (z_len : PySem.W.nsIn K mainGlobals "len" = some none)
    (z_abs : PySem.W.nsIn K mainGlobals "abs" = some none)
    (z_min : PySem.W.nsIn K mainGlobals "min" = some none)
    (z_max : PySem.W.nsIn K mainGlobals "max" = some none)
    (z_sum : PySem.W.nsIn K mainGlobals "sum" = some none)
    (z_sorted : PySem.W.nsIn K mainGlobals "sorted" = some none)
    (z_list : PySem.W.nsIn K mainGlobals "list" = some none)
    (z_dict : PySem.W.nsIn K mainGlobals "dict" = some none)
    (z_tuple : PySem.W.nsIn K mainGlobals "tuple" = some none)
    (z_int : PySem.W.nsIn K mainGlobals "int" = some none)
    (z_str : PySem.W.nsIn K mainGlobals "str" = some none)
    (z_divmod : PySem.W.nsIn K mainGlobals "divmod" = some none)
    (z_isinstance : PySem.W.nsIn K mainGlobals "isinstance" = some none)
    (z_range : PySem.W.nsIn K mainGlobals "range" = some none)
    (z_bool : PySem.W.nsIn K mainGlobals "bool" = some none)
    : ∃ fd : FuncData, (∀ (s : Shared) (v : Value), BindsTo s fd ⟨[v], []⟩ [("_law_script", v)]) ∧ ∀ base : Heap, K.In base → base.Ns mainGlobals mg → FnOk l.prog w K mg base (L2.CX l.prog w) (2 * KK) fa fd ["_law_script"] (spLaw K) := by
  have e := hfa.symm.trans (PySem.W.mg_of X G a17)
  cases e
  have F0 := fun_mk (st := s_f_is_name) l0 c0 k0
  have b0 := F0.binds (ps := P_f_is_name) fun _ _ _ _ _ _ us hl => match us, hl with | [_], _ => rfl
  have F1 := fun_mk (st := s_f_is_within) l1 c1 k1
  have b1 := F1.binds (ps := P_f_is_within) fun _ _ _ _ _ _ us hl => match us, hl with | [_, _], _ => rfl
  have F2 := fun_mk (st := s_f_person) l2 c2 k2
  have b2 := F2.binds (ps := P_f_person) fun _ _ _ _ _ _ us hl => match us, hl with | [_, _, _, _], _ => rfl
  have F3 := fun_mk (st := s_f_is_whole_to) l3 c3 k3
  have b3 := F3.binds (ps := P_f_is_whole_to) fun _ _ _ _ _ _ us hl => match us, hl with | [_, _], _ => rfl
  have F4 := fun_mk (st := s_f_is_of_person) l4 c4 k4
  have b4 := F4.binds (ps := P_f_is_of_person) fun _ _ _ _ _ _ us hl => match us, hl with | [_], _ => rfl
  have F5 := fun_mk (st := s_f_is_fact) l5 c5 k5
  have b5 := F5.binds (ps := P_f_is_fact) fun _ _ _ _ _ _ us hl => match us, hl with | [_], _ => rfl
  have F6 := fun_mk (st := s_f_news) l6 c6 k6
  have b6 := F6.binds (ps := P_f_news) fun _ _ _ _ _ _ us hl => match us, hl with | [_, _, _, _, _], _ => rfl
  have F7 := fun_mk (st := s_f_matter) l7 c7 k7
  have b7 := F7.binds (ps := P_f_matter) fun _ _ _ _ _ _ us hl => match us, hl with | [_], _ => rfl
  have F8 := fun_mk (st := s_f__law_cell) l8 c8 k8
  have b8 := F8.binds (ps := P_f__law_cell) fun _ _ _ _ _ _ us hl => match us, hl with | [_, _], _ => rfl
  have F9 := fun_mk (st := s_f__law_mixed) l9 c9 k9
  have b9 := F9.binds (ps := P_f__law_mixed) fun _ _ _ _ _ _ us hl => match us, hl with | [_, _], _ => rfl
  have F10 := fun_mk (st := s_f__law_pool) l10 c10 k10
  have b10 := F10.binds (ps := P_f__law_pool) fun _ _ _ _ _ _ us hl => match us, hl with | [_], _ => rfl
  have F11 := fun_mk (st := s_f__law_fact) l11 c11 k11
  have b11 := F11.binds (ps := P_f__law_fact) fun _ _ _ _ _ _ us hl => match us, hl with | [_, _], _ => rfl
  have F12 := fun_mk (st := s_f__law_matter) l12 c12 k12
  have b12 := F12.binds (ps := P_f__law_matter) fun _ _ _ _ _ _ us hl => match us, hl with | [_], _ => rfl
  have F13 := fun_mk (st := s_f__law_news) l13 c13 k13
  have b13 := F13.binds (ps := P_f__law_news) fun _ _ _ _ _ _ us hl => match us, hl with | [_, _, _], _ => rfl
  have F14 := fun_mk (st := s_f__law_months) l14 c14 k14
  have b14 := F14.binds (ps := P_f__law_months) fun _ _ _ _ _ _ us hl => match us, hl with | [_, _], _ => rfl
  have F15 := fun_mk (st := s_f__law_stands) l15 c15 k15
  have b15 := F15.binds (ps := P_f__law_stands) fun _ _ _ _ _ _ us hl => match us, hl with | [_, _, _], _ => rfl
  have F16 := fun_mk (st := s_f__law_alike) l16 c16 k16
  have b16 := F16.binds (ps := P_f__law_alike) fun _ _ _ _ _ _ us hl => match us, hl with | [_, _, _, _], _ => rfl
  have F17 := fun_mk (st := s_f_law) l17 c17 k17
  have b17 := F17.binds (ps := P_f_law) fun _ _ _ _ _ _ us hl => match us, hl with | [_], _ => rfl
  have F18 := fun_mk (st := s_f_Book_init) l18 c18 k18
  have b18 := F18.binds (ps := P_f_Book_init) fun _ _ _ _ _ _ us hl => match us, hl with | [_], _ => rfl
  have F19 := fun_mk (st := s_f_Book_tell) l19 c19 k19
  have b19 := F19.binds (ps := P_f_Book_tell) fun _ _ _ _ _ _ us hl => match us, hl with | [_, _, _, _, _, _], _ => rfl
  have F20 := fun_mk (st := s_f_Book_told) l20 c20 k20
  have b20 := F20.binds (ps := P_f_Book_told) fun _ _ _ _ _ _ us hl => match us, hl with | [_], _ => rfl
  have F21 := fun_mk (st := s_f_Book_standing) l21 c21 k21
  have b21 := F21.binds (ps := P_f_Book_standing) fun _ _ _ _ _ _ us hl => match us, hl with | [_, _, _], _ => rfl
  let FD : Nat → FuncData := fun n => match n with
    | 0 => PySem.W.fnOf "is_name" "is_name" (defArgs s_f_is_name) (defBody s_f_is_name) (defScope s_f_is_name) .none kV0 dc0 pm0 an0 cd0 ct0
    | 1 => PySem.W.fnOf "is_within" "is_within" (defArgs s_f_is_within) (defBody s_f_is_within) (defScope s_f_is_within) .none kV1 dc1 pm1 an1 cd1 ct1
    | 2 => PySem.W.fnOf "person" "person" (defArgs s_f_person) (defBody s_f_person) (defScope s_f_person) .none kV2 dc2 pm2 an2 cd2 ct2
    | 3 => PySem.W.fnOf "is_whole_to" "is_whole_to" (defArgs s_f_is_whole_to) (defBody s_f_is_whole_to) (defScope s_f_is_whole_to) .none kV3 dc3 pm3 an3 cd3 ct3
    | 4 => PySem.W.fnOf "is_of_person" "is_of_person" (defArgs s_f_is_of_person) (defBody s_f_is_of_person) (defScope s_f_is_of_person) .none kV4 dc4 pm4 an4 cd4 ct4
    | 5 => PySem.W.fnOf "is_fact" "is_fact" (defArgs s_f_is_fact) (defBody s_f_is_fact) (defScope s_f_is_fact) .none kV5 dc5 pm5 an5 cd5 ct5
    | 6 => PySem.W.fnOf "news" "news" (defArgs s_f_news) (defBody s_f_news) (defScope s_f_news) .none kV6 dc6 pm6 an6 cd6 ct6
    | 7 => PySem.W.fnOf "matter" "matter" (defArgs s_f_matter) (defBody s_f_matter) (defScope s_f_matter) .none kV7 dc7 pm7 an7 cd7 ct7
    | 8 => PySem.W.fnOf "_law_cell" "_law_cell" (defArgs s_f__law_cell) (defBody s_f__law_cell) (defScope s_f__law_cell) .none kV8 dc8 pm8 an8 cd8 ct8
    | 9 => PySem.W.fnOf "_law_mixed" "_law_mixed" (defArgs s_f__law_mixed) (defBody s_f__law_mixed) (defScope s_f__law_mixed) .none kV9 dc9 pm9 an9 cd9 ct9
    | 10 => PySem.W.fnOf "_law_pool" "_law_pool" (defArgs s_f__law_pool) (defBody s_f__law_pool) (defScope s_f__law_pool) .none kV10 dc10 pm10 an10 cd10 ct10
    | 11 => PySem.W.fnOf "_law_fact" "_law_fact" (defArgs s_f__law_fact) (defBody s_f__law_fact) (defScope s_f__law_fact) .none kV11 dc11 pm11 an11 cd11 ct11
    | 12 => PySem.W.fnOf "_law_matter" "_law_matter" (defArgs s_f__law_matter) (defBody s_f__law_matter) (defScope s_f__law_matter) .none kV12 dc12 pm12 an12 cd12 ct12
    | 13 => PySem.W.fnOf "_law_news" "_law_news" (defArgs s_f__law_news) (defBody s_f__law_news) (defScope s_f__law_news) .none kV13 dc13 pm13 an13 cd13 ct13
    | 14 => PySem.W.fnOf "_law_months" "_law_months" (defArgs s_f__law_months) (defBody s_f__law_months) (defScope s_f__law_months) .none kV14 dc14 pm14 an14 cd14 ct14
    | 15 => PySem.W.fnOf "_law_stands" "_law_stands" (defArgs s_f__law_stands) (defBody s_f__law_stands) (defScope s_f__law_stands) .none kV15 dc15 pm15 an15 cd15 ct15
    | 16 => PySem.W.fnOf "_law_alike" "_law_alike" (defArgs s_f__law_alike) (defBody s_f__law_alike) (defScope s_f__law_alike) .none kV16 dc16 pm16 an16 cd16 ct16
    | 17 => PySem.W.fnOf "law" "law" (defArgs s_f_law) (defBody s_f_law) (defScope s_f_law) .none kV17 dc17 pm17 an17 cd17 ct17
    | 18 => PySem.W.fnOf "__init__" "Book.__init__" (defArgs s_f_Book_init) (defBody s_f_Book_init) (defScope s_f_Book_init) .none kV18 dc18 pm18 an18 cd18 ct18
    | 19 => PySem.W.fnOf "tell" "Book.tell" (defArgs s_f_Book_tell) (defBody s_f_Book_tell) (defScope s_f_Book_tell) .none kV19 dc19 pm19 an19 cd19 ct19
    | 20 => PySem.W.fnOf "told" "Book.told" (defArgs s_f_Book_told) (defBody s_f_Book_told) (defScope s_f_Book_told) .none kV20 dc20 pm20 an20 cd20 ct20
    | 21 => PySem.W.fnOf "standing" "Book.standing" (defArgs s_f_Book_standing) (defBody s_f_Book_standing) (defScope s_f_Book_standing) .none kV21 dc21 pm21 an21 cd21 ct21
    | _ => PySem.W.fnOf "" "" (defArgs s_f_law) [] (defScope s_f_law) .none .none .none .none none .none .none
  let FA : Nat → Addr := fun n => match n with
    | 0 => f0
    | 1 => f1
    | 2 => f2
    | 3 => f3
    | 4 => f4
    | 5 => f5
    | 6 => f6
    | 7 => f7
    | 8 => f8
    | 9 => f9
    | 10 => f10
    | 11 => f11
    | 12 => f12
    | 13 => f13
    | 14 => f14
    | 15 => f15
    | 16 => f16
    | 17 => fa
    | 18 => f18
    | 19 => f19
    | 20 => f20
    | 21 => f21
    | _ => 0
  let psF : Nat → List Str := fun n => match n with
    | 0 => P_f_is_name
    | 1 => P_f_is_within
    | 2 => P_f_person
    | 3 => P_f_is_whole_to
    | 4 => P_f_is_of_person
    | 5 => P_f_is_fact
    | 6 => P_f_news
    | 7 => P_f_matter
    | 8 => P_f__law_cell
    | 9 => P_f__law_mixed
    | 10 => P_f__law_pool
    | 11 => P_f__law_fact
    | 12 => P_f__law_matter
    | 13 => P_f__law_news
    | 14 => P_f__law_months
    | 15 => P_f__law_stands
    | 16 => P_f__law_alike
    | 17 => P_f_law
    | 18 => P_f_Book_init
    | 19 => P_f_Book_tell
    | 20 => P_f_Book_told
    | 21 => P_f_Book_standing
    | _ => []
  let D : Dt := ⟨P, M, FA, FD, psF, fun n => match n with
    | 0 => .ref C0
    | _ => .none⟩
  have T : Tx D K mg := {
    fn := fun f x e hne => by
      match f, e with
      | 0, e => cases e; exact ⟨_, rfl, PySem.W.mg_of X G a0, k0⟩
      | 1, e => cases e; exact ⟨_, rfl, PySem.W.mg_of X G a1, k1⟩
      | 2, e => cases e; exact ⟨_, rfl, PySem.W.mg_of X G a2, k2⟩
      | 3, e => cases e; exact ⟨_, rfl, PySem.W.mg_of X G a3, k3⟩
      | 4, e => cases e; exact ⟨_, rfl, PySem.W.mg_of X G a4, k4⟩
      | 5, e => cases e; exact ⟨_, rfl, PySem.W.mg_of X G a5, k5⟩
      | 6, e => cases e; exact ⟨_, rfl, PySem.W.mg_of X G a6, k6⟩
      | 7, e => cases e; exact ⟨_, rfl, PySem.W.mg_of X G a7, k7⟩
      | 8, e => cases e; exact ⟨_, rfl, PySem.W.mg_of X G a8, k8⟩
      | 9, e => cases e; exact ⟨_, rfl, PySem.W.mg_of X G a9, k9⟩
      | 10, e => cases e; exact ⟨_, rfl, PySem.W.mg_of X G a10, k10⟩
      | 11, e => cases e; exact ⟨_, rfl, PySem.W.mg_of X G a11, k11⟩
      | 12, e => cases e; exact ⟨_, rfl, PySem.W.mg_of X G a12, k12⟩
      | 13, e => cases e; exact ⟨_, rfl, PySem.W.mg_of X G a13, k13⟩
      | 14, e => cases e; exact ⟨_, rfl, PySem.W.mg_of X G a14, k14⟩
      | 15, e => cases e; exact ⟨_, rfl, PySem.W.mg_of X G a15, k15⟩
      | 16, e => cases e; exact ⟨_, rfl, PySem.W.mg_of X G a16, k16⟩
      | 17, e => cases e; exact ⟨_, rfl, PySem.W.mg_of X G a17, k17⟩
      | 18, e => cases e; exact absurd rfl hne
      | 19, e => cases e; exact absurd rfl hne
      | 20, e => cases e; exact absurd rfl hne
      | 21, e => cases e; exact absurd rfl hne
      | n + 22, e => cases e
    df := fun f d e => by
      match f, e with
      | 0, e => cases e; exact ⟨⟨_, _, s_f_is_name, N_f_is_name, F0, scp_f_is_name, c_f_is_name, rfl⟩, b0, rfl, rfl⟩
      | 1, e => cases e; exact ⟨⟨_, _, s_f_is_within, N_f_is_within, F1, scp_f_is_within, c_f_is_within, rfl⟩, b1, rfl, rfl⟩
      | 2, e => cases e; exact ⟨⟨_, _, s_f_person, N_f_person, F2, scp_f_person, c_f_person, rfl⟩, b2, rfl, rfl⟩
      | 3, e => cases e; exact ⟨⟨_, _, s_f_is_whole_to, N_f_is_whole_to, F3, scp_f_is_whole_to, c_f_is_whole_to, rfl⟩, b3, rfl, rfl⟩
      | 4, e => cases e; exact ⟨⟨_, _, s_f_is_of_person, N_f_is_of_person, F4, scp_f_is_of_person, c_f_is_of_person, rfl⟩, b4, rfl, rfl⟩
      | 5, e => cases e; exact ⟨⟨_, _, s_f_is_fact, N_f_is_fact, F5, scp_f_is_fact, c_f_is_fact, rfl⟩, b5, rfl, rfl⟩
      | 6, e => cases e; exact ⟨⟨_, _, s_f_news, N_f_news, F6, scp_f_news, c_f_news, rfl⟩, b6, rfl, rfl⟩
      | 7, e => cases e; exact ⟨⟨_, _, s_f_matter, N_f_matter, F7, scp_f_matter, c_f_matter, rfl⟩, b7, rfl, rfl⟩
      | 8, e => cases e; exact ⟨⟨_, _, s_f__law_cell, N_f__law_cell, F8, scp_f__law_cell, c_f__law_cell, rfl⟩, b8, rfl, rfl⟩
      | 9, e => cases e; exact ⟨⟨_, _, s_f__law_mixed, N_f__law_mixed, F9, scp_f__law_mixed, c_f__law_mixed, rfl⟩, b9, rfl, rfl⟩
      | 10, e => cases e; exact ⟨⟨_, _, s_f__law_pool, N_f__law_pool, F10, scp_f__law_pool, c_f__law_pool, rfl⟩, b10, rfl, rfl⟩
      | 11, e => cases e; exact ⟨⟨_, _, s_f__law_fact, N_f__law_fact, F11, scp_f__law_fact, c_f__law_fact, rfl⟩, b11, rfl, rfl⟩
      | 12, e => cases e; exact ⟨⟨_, _, s_f__law_matter, N_f__law_matter, F12, scp_f__law_matter, c_f__law_matter, rfl⟩, b12, rfl, rfl⟩
      | 13, e => cases e; exact ⟨⟨_, _, s_f__law_news, N_f__law_news, F13, scp_f__law_news, c_f__law_news, rfl⟩, b13, rfl, rfl⟩
      | 14, e => cases e; exact ⟨⟨_, _, s_f__law_months, N_f__law_months, F14, scp_f__law_months, c_f__law_months, rfl⟩, b14, rfl, rfl⟩
      | 15, e => cases e; exact ⟨⟨_, _, s_f__law_stands, N_f__law_stands, F15, scp_f__law_stands, c_f__law_stands, rfl⟩, b15, rfl, rfl⟩
      | 16, e => cases e; exact ⟨⟨_, _, s_f__law_alike, N_f__law_alike, F16, scp_f__law_alike, c_f__law_alike, rfl⟩, b16, rfl, rfl⟩
      | 17, e => cases e; exact ⟨⟨_, _, s_f_law, N_f_law, F17, scp_f_law, c_f_law, rfl⟩, b17, rfl, rfl⟩
      | 18, e => cases e; exact ⟨⟨_, _, s_f_Book_init, N_f_Book_init, F18, scp_f_Book_init, c_f_Book_init, rfl⟩, b18, rfl, rfl⟩
      | 19, e => cases e; exact ⟨⟨_, _, s_f_Book_tell, N_f_Book_tell, F19, scp_f_Book_tell, c_f_Book_tell, rfl⟩, b19, rfl, rfl⟩
      | 20, e => cases e; exact ⟨⟨_, _, s_f_Book_told, N_f_Book_told, F20, scp_f_Book_told, c_f_Book_told, rfl⟩, b20, rfl, rfl⟩
      | 21, e => cases e; exact ⟨⟨_, _, s_f_Book_standing, N_f_Book_standing, F21, scp_f_Book_standing, c_f_Book_standing, rfl⟩, b21, rfl, rfl⟩
      | n + 22, e => cases e
    gl := fun i x v e1 e2 => by
      match i, e1, e2 with
      | 0, e1, e2 => cases e1; cases e2; exact ⟨_, .int _, PySem.W.mg_of X G glo0, ⟨_, rfl⟩, fun _ _ _ => .int _⟩
      | 1, e1, e2 => cases e1; cases e2; exact ⟨_, .str _, PySem.W.mg_of X G glo1, ⟨_, rfl⟩, fun _ _ _ => .str _⟩
      | 2, e1, e2 => cases e1; cases e2; exact ⟨_, .int _, PySem.W.mg_of X G glo2, ⟨_, rfl⟩, fun _ _ _ => .int _⟩
      | 3, e1, e2 => cases e1; cases e2; exact ⟨_, .int _, PySem.W.mg_of X G glo3, ⟨_, rfl⟩, fun _ _ _ => .int _⟩
      | 4, e1, e2 => cases e1; cases e2; exact ⟨_, .int _, PySem.W.mg_of X G glo4, ⟨_, rfl⟩, fun _ _ _ => .int _⟩
      | 5, e1, e2 => cases e1; cases e2; exact ⟨_, .int _, PySem.W.mg_of X G glo5, ⟨_, rfl⟩, fun _ _ _ => .int _⟩
      | 6, e1, e2 => cases e1; cases e2; exact ⟨_, .int _, PySem.W.mg_of X G glo6, ⟨_, rfl⟩, fun _ _ _ => .int _⟩
      | n + 7, e1, e2 => cases e1
    bi := fun x hx => by
      simp only [biNames, List.mem_cons, List.not_mem_nil, or_false] at hx
      rcases hx with rfl | rfl | rfl | rfl | rfl | rfl | rfl | rfl | rfl | rfl | rfl | rfl | rfl | rfl | rfl
      · exact PySem.W.mg_none_of X G z_len
      · exact PySem.W.mg_none_of X G z_abs
      · exact PySem.W.mg_none_of X G z_min
      · exact PySem.W.mg_none_of X G z_max
      · exact PySem.W.mg_none_of X G z_sum
      · exact PySem.W.mg_none_of X G z_sorted
      · exact PySem.W.mg_none_of X G z_list
      · exact PySem.W.mg_none_of X G z_dict
      · exact PySem.W.mg_none_of X G z_tuple
      · exact PySem.W.mg_none_of X G z_int
      · exact PySem.W.mg_none_of X G z_str
      · exact PySem.W.mg_none_of X G z_divmod
      · exact PySem.W.mg_none_of X G z_isinstance
      · exact PySem.W.mg_none_of X G z_range
      · exact PySem.W.mg_none_of X G z_bool
    mkC := fun c x e hc => by
      match c, e with
      | 0, e => cases e; exact ⟨_, 18, _, C0, rfl, rfl, rfl, rfl, PySem.W.mg_of X G aC0, ⟨mk0, a18, i18, kc0⟩⟩
      | n + 1, e => cases e
    me := fun c d m f x e1 e2 e3 => by
      match c, e1 with
      | 0, e1 =>
        cases e1
        match m, e2, e3 with
        | 0, e2, e3 => cases e2; cases e3; exact ⟨C0, rfl, ⟨pg0, hd0, po0, sa0⟩, ⟨a21, i21, k21⟩, _, rfl⟩
        | 1, e2, e3 => cases e2; cases e3; exact ⟨C0, rfl, ⟨pg0, hd0, po0, sa0⟩, ⟨a20, i20, k20⟩, _, rfl⟩
        | 2, e2, e3 => cases e2; cases e3; exact ⟨C0, rfl, ⟨pg0, hd0, po0, sa0⟩, ⟨a19, i19, k19⟩, _, rfl⟩
        | n + 3, e2, e3 => cases e3
      | n + 1, e1 => cases e1
    cs := fun c d f e hf => by
      match c, e with
      | 0, e =>
        cases e
        simp only [kl_Book, List.mem_cons, List.not_mem_nil, or_false] at hf
        subst hf
        exact ⟨C0, _, rfl, ⟨pg0, hd0, po0, sa0⟩, rfl, n0_0⟩
      | n + 1, e => cases e
    mf := mf_
    nf := nf_
    wl := wlc_ok }
  exact ⟨FD 17, fun s v => .of_eq rfl, fun base _ _ => law_ok T (li := 17) (kk := KK) rfl rfl law_true⟩
theorem walk {l : PySem.W.OpenLaw} {q : Program} {loose : List Str} {XP : (Str → Option Value) → Heap → Prop} {YP : World → Heap → Prop} {d : DefRec} {K : Params → PySem.W.Frag} (hn : l.most = some 63) (hdf : d.params.defaults = [])
    (hY : ∀ (w : World) (h : Heap), YP w h → (K w.params).In h)
    (F : ∀ (w : World) (mg : Str → Option Value) (fa : Addr) (h : Heap), (K w.params).In h → h.Ns mainGlobals mg → mg d.name = some (.ref fa) →
      ∃ fd : FuncData, (∀ (s : Shared) (u : Value), BindsTo s fd ⟨[u], []⟩ [("_law_script", u)]) ∧ ∀ base : Heap, (K w.params).In base → base.Ns mainGlobals mg → FnOk l.prog w (K w.params) mg base (L2.CX l.prog w) (2 * KK) fa fd ["_law_script"] (spLaw (K w.params))) :
    PySem.W.WalkO q loose XP YP l.row.toRowW d [] (fun f vs => PySem.call f vs) := dl_walk (kk := KK) hn hdf ⟨rfl, by decide, by decide⟩ hY F
end K82
open PySem PySem.W PyProof.Rows in
set_option maxRecDepth 100000 in
set_option maxHeartbeats 0 in
theorem PySem.Challenge.cw_doletaper_k82_standing_and_told_holds : PySem.Challenge.rw_doletaper_k82_standing_and_told.Holds := by
  w_on; o_law; k_head; (case hw => w_witness2)
  k_fill
  refine K82.walk (l := PySem.Challenge.rw_doletaper_k82_standing_and_told) rfl rfl (fun w h Y => PySem.W.kIn_of Y) ?F
  case F =>
    intro w mg fa h KX G hmg
    refine' K82.all_mk KX G hmg ?aC0 ?a0 ?l0 ?c0 ?k0 ?a1 ?l1 ?c1 ?k1 ?a2 ?l2 ?c2 ?k2 ?a3 ?l3 ?c3 ?k3 ?a4 ?l4 ?c4 ?k4 ?a5 ?l5 ?c5 ?k5 ?a6 ?l6 ?c6 ?k6 ?a7 ?l7 ?c7 ?k7 ?a8 ?l8 ?c8 ?k8 ?a9 ?l9 ?c9 ?k9 ?a10 ?l10 ?c10 ?k10 ?a11 ?l11 ?c11 ?k11 ?a12 ?l12 ?c12 ?k12 ?a13 ?l13 ?c13 ?k13 ?a14 ?l14 ?c14 ?k14 ?a15 ?l15 ?c15 ?k15 ?a16 ?l16 ?c16 ?k16 ?a17 ?l17 ?c17 ?k17 ?a18 ?i18 ?l18 ?c18 ?k18 ?a19 ?i19 ?l19 ?c19 ?k19 ?a20 ?i20 ?l20 ?c20 ?k20 ?a21 ?i21 ?l21 ?c21 ?k21 ?pg0 ?hd0 ?po0 ?sa0 ?mk0 ?kc0 ?n0_0 ?glo0 ?glo1 ?glo2 ?glo3 ?glo4 ?glo5 ?glo6 ?z_len ?z_abs ?z_min ?z_max ?z_sum ?z_sorted ?z_list ?z_dict ?z_tuple ?z_int ?z_str ?z_divmod ?z_isinstance ?z_range ?z_bool
    (case aC0 => k_is)
    (case a0 => k_is)
    (case l0 => k_is)
    (case c0 => k_is)
    (case k0 => k_is)
    (case a1 => k_is)
    (case l1 => k_is)
    (case c1 => k_is)
    (case k1 => k_is)
    (case a2 => k_is)
    (case l2 => k_is)
    (case c2 => k_is)
    (case k2 => k_is)
    (case a3 => k_is)
    (case l3 => k_is)
    (case c3 => k_is)
    (case k3 => k_is)
    (case a4 => k_is)
    (case l4 => k_is)
    (case c4 => k_is)
    (case k4 => k_is)
    (case a5 => k_is)
    (case l5 => k_is)
    (case c5 => k_is)
    (case k5 => k_is)
    (case a6 => k_is)
    (case l6 => k_is)
    (case c6 => k_is)
    (case k6 => k_is)
    (case a7 => k_is)
    (case l7 => k_is)
    (case c7 => k_is)
    (case k7 => k_is)
    (case a8 => k_is)
    (case l8 => k_is)
    (case c8 => k_is)
    (case k8 => k_is)
    (case a9 => k_is)
    (case l9 => k_is)
    (case c9 => k_is)
    (case k9 => k_is)
    (case a10 => k_is)
    (case l10 => k_is)
    (case c10 => k_is)
    (case k10 => k_is)
    (case a11 => k_is)
    (case l11 => k_is)
    (case c11 => k_is)
    (case k11 => k_is)
    (case a12 => k_is)
    (case l12 => k_is)
    (case c12 => k_is)
    (case k12 => k_is)
    (case a13 => k_is)
    (case l13 => k_is)
    (case c13 => k_is)
    (case k13 => k_is)
    (case a14 => k_is)
    (case l14 => k_is)
    (case c14 => k_is)
    (case k14 => k_is)
    (case a15 => k_is)
    (case l15 => k_is)
    (case c15 => k_is)
    (case k15 => k_is)
    (case a16 => k_is)
    (case l16 => k_is)
    (case c16 => k_is)
    (case k16 => k_is)
    (case a17 => k_is)
    (case l17 => k_is)
    (case c17 => k_is)
    (case k17 => k_is)
    (case a18 => k_is)
    (case i18 => k_is)
    (case l18 => k_is)
    (case c18 => k_is)
    (case k18 => k_is)
    (case a19 => k_is)
    (case i19 => k_is)
    (case l19 => k_is)
    (case c19 => k_is)
    (case k19 => k_is)
    (case a20 => k_is)
    (case i20 => k_is)
    (case l20 => k_is)
    (case c20 => k_is)
    (case k20 => k_is)
    (case a21 => k_is)
    (case i21 => k_is)
    (case l21 => k_is)
    (case c21 => k_is)
    (case k21 => k_is)
    (case pg0 => k_is)
    (case hd0 => k_is)
    (case po0 => k_is)
    (case sa0 => k_is)
    (case mk0 => k_is)
    (case kc0 => k_is)
    (case n0_0 => k_is)
    (case glo0 => k_is)
    (case glo1 => k_is)
    (case glo2 => k_is)
    (case glo3 => k_is)
    (case glo4 => k_is)
    (case glo5 => k_is)
    (case glo6 => k_is)
    (case z_len => k_is)
    (case z_abs => k_is)
    (case z_min => k_is)
    (case z_max => k_is)
    (case z_sum => k_is)
    (case z_sorted => k_is)
    (case z_list => k_is)
    (case z_dict => k_is)
    (case z_tuple => k_is)
    (case z_int => k_is)
    (case z_str => k_is)
    (case z_divmod => k_is)
    (case z_isinstance => k_is)
    (case z_range => k_is)
    (case z_bool => k_is)
