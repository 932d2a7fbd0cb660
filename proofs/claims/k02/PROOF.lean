import PyProof.Rows.All
import Wide.All
import OpenK.AllK
import Wide.FinOn
import HandS.ForMost
import HandS.Deep
import HandS.Walk
import HandS.Zip
import HandS.TupAny
import HandS.TupMul
import HandS.Style
import HandS.Flow
import HandS.IsInst
import HandS.Exc
import HandS.TryOnly
import HandS.ExcOwn
import HandS.ExcInit
import HandS.WordsExc
import HandS.Conv
import HandS.SortInts
import HandS.Iter
import HandS.Dict
import KE.KDictDisplayH
import KE.GoesEnum
import KE.KExcInit
import KE.KStateDown
import HandS.Ends
import HandS.Head0
import HandS.Head1
import HandS.Head2
import HandS.HeadEnd
import HandS.HeadHook1
import PySem.Challenge.RW_bothroads_k02_main_runs_as_orders
set_option Elab.async false
set_option linter.all false
set_option maxRecDepth 100000
/-! Cl, part A: a clean machine for the part of Python that the program uses: values as trees, mutable lists and dicts in a store. -/
namespace Cl
open PySem L2

/-! ### values -/
inductive D where
  | non | bl (b : Bool) | int (i : Int) | str (s : Str)
  | tup (xs : List D) | lst (xs : List D) | rol (xs : List D) | loc (n : Nat)
  deriving Inhabited
mutual
def D.beq : D → D → Bool
  | .non, .non => true
  | .bl a, .bl b => a == b
  | .int a, .int b => a == b
  | .str a, .str b => a == b
  | .tup a, .tup b => Ds.beq a b
  | .lst a, .lst b => Ds.beq a b
  | .rol a, .rol b => Ds.beq a b
  | .loc a, .loc b => a == b
  | _, _ => false
def Ds.beq : List D → List D → Bool
  | [], [] => true
  | a :: as, b :: bs => D.beq a b && Ds.beq as bs
  | _, _ => false
end
mutual
theorem D.beq_refl : ∀ a : D, D.beq a a = true
  | .non => rfl
  | .bl a => by simp [D.beq]
  | .int a => by simp [D.beq]
  | .str a => by simp [D.beq]
  | .tup a => by simp [D.beq, Ds.beq_refl a]
  | .lst a => by simp [D.beq, Ds.beq_refl a]
  | .rol a => by simp [D.beq, Ds.beq_refl a]
  | .loc a => by simp [D.beq]
theorem Ds.beq_refl : ∀ a : List D, Ds.beq a a = true
  | [] => rfl
  | a :: as => by simp [Ds.beq, D.beq_refl a, Ds.beq_refl as]
end
mutual
theorem D.beq_eq : ∀ a b : D, D.beq a b = true → a = b
  | .non, b, h => by cases b <;> simp_all [D.beq]
  | .bl a, b, h => by cases b <;> simp_all [D.beq]
  | .int a, b, h => by cases b <;> simp_all [D.beq]
  | .str a, b, h => by cases b <;> simp_all [D.beq]
  | .tup a, b, h => by
    cases b with
    | tup b => rw [Ds.beq_eq a b (by simpa [D.beq] using h)]
    | _ => simp [D.beq] at h
  | .lst a, b, h => by
    cases b with
    | lst b => rw [Ds.beq_eq a b (by simpa [D.beq] using h)]
    | _ => simp [D.beq] at h
  | .rol a, b, h => by
    cases b with
    | rol b => rw [Ds.beq_eq a b (by simpa [D.beq] using h)]
    | _ => simp [D.beq] at h
  | .loc a, b, h => by cases b <;> simp_all [D.beq]
theorem Ds.beq_eq : ∀ a b : List D, Ds.beq a b = true → a = b
  | [], b, h => by cases b <;> simp_all [Ds.beq]
  | a :: as, b, h => by
    cases b with
    | nil => simp [Ds.beq] at h
    | cons b bs =>
      have h' : D.beq a b = true ∧ Ds.beq as bs = true := by simpa [Ds.beq] using h
      rw [D.beq_eq a b h'.1, Ds.beq_eq as bs h'.2]
end

/-- what stands in the store -/
inductive O where
  | lst (xs : List D)
  | dK (kvs : List (Key × D))
  | dT (kvs : List (List Key × D))
  deriving Inhabited
abbrev Store := List O
abbrev Env := List (Option D)
/-- an exception: its class's name, its field's value -/
structure XD where
  cls : Str
  arg : Option D := none
inductive R (α : Type) where
  | ok (a : α) | ex (x : XD)
/-- a step: it may end in a value or an exception, or be stuck -/
abbrev M (α : Type) := Store → Option (R α × Store)
@[simp] def ret {α : Type} (a : α) : M α := fun st => some (.ok a, st)
@[simp] def bnd {α β : Type} (m : M α) (f : α → M β) : M β := fun st => match m st with
  | some (.ok a, st1) => f a st1
  | some (.ex x, st1) => some (.ex x, st1)
  | none => none
@[simp] def lft {α : Type} (o : Option α) : M α := fun st => match o with
  | some a => some (.ok a, st)
  | none => none
/-- an expression's value: a value, or the items of a list that is just being made -/
inductive E where
  | v (d : D) | f (ds : List D)
@[simp] def E.val : E → D
  | .v d => d
  | .f ds => .lst ds

/-! ### data -/
mutual
def den (f : Nat → Option PyData) : D → Option PyData
  | .non => some .none
  | .bl b => some (.bool b)
  | .int i => some (.int i)
  | .str s => some (.str s)
  | .tup xs => match denL f xs with | some ps => some (.tuple ps) | none => none
  | .lst xs => match denL f xs with | some ps => some (.list ps) | none => none
  | .rol xs => match denL f xs with | some ps => some (.list ps) | none => none
  | .loc n => f n
def denL (f : Nat → Option PyData) : List D → Option (List PyData)
  | [] => some []
  | x :: xs => match den f x, denL f xs with | some p, some ps => some (p :: ps) | _, _ => none
end
def denAt : Nat → Store → Nat → Option PyData
  | 0, _, _ => none
  | k + 1, st, n => match st[n]? with
    | some (.lst ds) => match denL (denAt k st) ds with | some ps => some (.list ps) | none => none
    | _ => none
def toP (st : Store) (d : D) : Option PyData := den (denAt 8 st) d
/-- a == b -/
def eqD (st : Store) (a b : D) : Option Bool := match toP st a, toP st b with
  | some p, some q => if SeqAt.shaped p = true ∧ SeqAt.shaped q = true then some (PyData.eqv p q) else none
  | _, _ => none
/-- a in b, b a list or a tuple -/
def inD (st : Store) (a b : D) : Option Bool := match toP st a, toP st b with
  | some p, some (.list qs) => if SeqAt.shaped p = true ∧ SeqAt.shaped (.list qs) = true then some (qs.any fun z => PyData.eqv z p) else none
  | some p, some (.tuple qs) => if SeqAt.shaped p = true ∧ SeqAt.shaped (.tuple qs) = true then some (qs.any fun z => PyData.eqv z p) else none
  | _, _ => none
/-- the items of a list that may be read -/
@[simp] def rdL (st : Store) : D → Option (List D)
  | .lst xs => some xs
  | .rol xs => some xs
  | .loc n => match st[n]? with
    | some (.lst xs) => some xs
    | _ => none
  | _ => none
/-- .. that is no part of the top, nor locked -/
@[simp] def rdT (st : Store) : D → Option (List D)
  | .lst xs => some xs
  | .loc n => match st[n]? with
    | some (.lst xs) => some xs
    | _ => none
  | _ => none
/-- .. of a list or a tuple -/
@[simp] def rdS (st : Store) : D → Option (List D)
  | .tup xs => some xs
  | d => rdL st d
@[simp] def okLen (n : Nat) : Bool := decide (n ≤ 100000)
@[simp] def smallI (i : Int) : Bool := decide (-(2 ^ 64) < i) && decide (i < 2 ^ 64)

/-! ### operations -/
@[simp] def binD (st : Store) (op : Operator) (x y : D) : Option E := match op, x, y with
  | .Add, .int i, .int j => some (.v (.int (i + j)))
  | .Sub, .int i, .int j => some (.v (.int (i - j)))
  | .Mult, .int i, .int j => if smallI i || smallI j then some (.v (.int (i * j))) else none
  | .FloorDiv, .int i, .int j => if j ≠ 0 ∧ j.natAbs < 1073741824 then some (.v (.int (i.fdiv j))) else none
  | .Mod, .int i, .int j => if j ≠ 0 then some (.v (.int (i.fmod j))) else none
  | .Pow, .int i, .int j => if 0 ≤ j ∧ j ≤ 1000000 ∧ i.natAbs < 2 ^ 64 then some (.v (.int (i ^ j.toNat))) else none
  | .Add, .tup xs, .tup ys => if okLen (xs.length + ys.length) then some (.v (.tup (xs ++ ys))) else none
  | .Mult, .tup xs, .int k => if 0 ≤ k ∧ k ≤ 1000 ∧ xs.length ≤ 1000 ∧ xs.isEmpty = false then some (.v (.tup (List.replicate k.toNat xs).flatten)) else none
  | .Add, .str a, .str b => if okLen (a.length + b.length) then some (.v (.str (a ++ b))) else none
  | .Add, x, y => match rdT st x, rdT st y with
    | some xs, some ys => if okLen (xs.length + ys.length) then some (.f (xs ++ ys)) else none
    | _, _ => none
  | .Mult, x, .int k => match rdT st x with
    | some xs => if 0 ≤ k ∧ k ≤ 10000 ∧ okLen (xs.length * k.toNat) then some (.f (List.replicate k.toNat xs).flatten) else none
    | none => none
  | _, _, _ => none
@[simp] def cmpI (op : CmpOp) (i j : Int) : Option Bool := match op with
  | .Lt => some (decide (i < j))
  | .LtE => some (decide (i ≤ j))
  | .Gt => some (decide (j < i))
  | .GtE => some (decide (j ≤ i))
  | _ => none
@[simp] def cmpD (st : Store) (op : CmpOp) (x y : D) : Option Bool := match op, x, y with
  | .Eq, x, y => eqD st x y
  | .NotEq, x, y => match eqD st x y with | some b => some (!b) | none => none
  | .In, x, y => inD st x y
  | .NotIn, x, y => match inD st x y with | some b => some (!b) | none => none
  | op, .int i, .int j => cmpI op i j
  | _, _, _ => none
/-- x is c, c a constant None, True, False -/
@[simp] def isD (x c : D) : Option Bool := match c, x with
  | .non, .non => some true
  | .non, _ => some false
  | .bl a, .bl b => some (decide (b = a))
  | _, _ => none
@[simp] def truD (st : Store) : D → Option Bool
  | .non => some false
  | .bl b => some b
  | .int i => some (i != 0)
  | .str s => if okLen s.length then some ((s.length : Int) != 0) else none
  | .tup xs => some (!xs.isEmpty)
  | d => match rdL st d with
    | some xs => some (!xs.isEmpty)
    | none => none
/-- a tuple as a dict's key -/
def keyD : List D → Option (List Key)
  | [] => some []
  | .int i :: r => match keyD r with | some ks => some (.inl i :: ks) | none => none
  | .str s :: r => match keyD r with | some ks => some (.inr s :: ks) | none => none
  | _ => none
def gK {κ : Type} [DecidableEq κ] (kvs : List (κ × D)) (k : κ) : Option D := (kvs.find? fun kv => decide (kv.1 = k)).map (·.2)
def pK {κ : Type} [DecidableEq κ] (kvs : List (κ × D)) (k : κ) (v : D) : List (κ × D) :=
  if kvs.any fun kv => decide (kv.1 = k) then kvs.map fun kv => if kv.1 = k then (kv.1, v) else kv else kvs ++ [(k, v)]
/-- a[i] -/
@[simp] def idxD (st : Store) (x i : D) : Option D := match i with
  | .int k => match rdS st x with
    | some xs => atI xs k
    | none => none
  | .tup ds => match x with
    | .loc n => match st[n]? with
      | some (.dT kvs) => match keyD ds with
        | some k => gK kvs k
        | none => none
      | _ => none
    | _ => none
  | _ => none
/-- a[lo:hi] -/
def cutD (xs : List D) (lo hi : Option Int) : List D := (xs.drop (HT.sIx xs.length 0 lo)).take (HT.sIx xs.length xs.length hi - HT.sIx xs.length 0 lo)
def slcD (st : Store) (x : D) (lo hi : Option Int) : Option E := match x with
  | .tup xs => some (.v (.tup (cutD xs lo hi)))
  | d => match rdL st d with
    | some xs => some (.f (cutD xs lo hi))
    | none => none
/-- built-in functions and classes, called by place -/
inductive BI where
  | len | tuple | list | abs | int | max | min | sum | any | all | sorted
  deriving DecidableEq
def ints? : List D → Option (List Int)
  | [] => some []
  | .int i :: r => match ints? r with | some is => some (i :: is) | none => none
  | _ => none
def bls? : List D → Option (List Bool)
  | [] => some []
  | .bl b :: r => match bls? r with | some bs => some (b :: bs) | none => none
  | _ => none
/-- rising -/
def insI (x : Int) : List Int → List Int
  | [] => [x]
  | y :: r => if x ≤ y then x :: y :: r else y :: insI x r
def srtI : List Int → List Int
  | [] => []
  | x :: r => insI x (srtI r)
@[simp] def biD (st : Store) (f : BI) (as : List D) : Option E := match f, as with
  | .len, [x] => match x with
    | .str s => if okLen s.length then some (.v (.int s.length)) else none
    | x => match rdS st x with
      | some xs => some (.v (.int xs.length))
      | none => none
  | .tuple, [x] => match x with
    | .tup xs => some (.v (.tup xs))
    | x => match rdL st x with
      | some xs => some (.v (.tup xs))
      | none => none
  | .list, [x] => match rdS st x with
    | some xs => some (.f xs)
    | none => none
  | .abs, [.int i] => some (.v (.int (if i < 0 then -i else i)))
  | .int, [.int i] => some (.v (.int i))
  | .int, [.bl b] => some (.v (.int (if b then 1 else 0)))
  | .max, [.int i, .int j] => some (.v (.int (if j > i then j else i)))
  | .min, [.int i, .int j] => some (.v (.int (if j < i then j else i)))
  | .sum, [x] => match rdL st x with
    | some xs => match ints? xs with
      | some is => some (.v (.int is.sum))
      | none => none
    | none => none
  | .any, [x] => match rdL st x with
    | some xs => match bls? xs with
      | some bs => some (.v (.bl (bs.any id)))
      | none => none
    | none => none
  | .all, [x] => match rdL st x with
    | some xs => match bls? xs with
      | some bs => some (.v (.bl (bs.all id)))
      | none => none
    | none => none
  | .sorted, [x] => match rdS st x with
    | some xs => match ints? xs with
      | some is => some (.f ((srtI is).map .int))
      | none => none
    | none => none
  | _, _ => none
/-- isinstance's classes -/
inductive TyN where
  | int | bool | str | list | tuple
  deriving DecidableEq
@[simp] def tyD (st : Store) : D → Option TyN
  | .bl _ => some .bool
  | .int _ => some .int
  | .str _ => some .str
  | .tup _ => some .tuple
  | .lst _ => some .list
  | .loc n => match st[n]? with
    | some (.lst _) => some .list
    | _ => none
  | _ => none
@[simp] def isiOne : TyN → TyN → Bool
  | .bool, .int => true
  | a, b => decide (a = b)
@[simp] def isiD (st : Store) (x : D) (ts : List TyN) : Option Bool := match x with
  | .non => some false
  | x => match tyD st x with
    | some t => some (ts.any (isiOne t))
    | none => none

/-! ### methods that change -/
inductive MI where
  | append | pop0 | pop | extend | index
  deriving DecidableEq
@[simp] def metD (st : Store) (m : MI) (o : D) (as : List D) : Option (D × Store) := match o with
  | .loc n => match st[n]? with
    | some (.lst xs) => match m, as with
      | .append, [d] => if okLen xs.length then some (.non, st.set n (.lst (xs ++ [d]))) else none
      | .pop0, [.int 0] => match xs with
        | x :: r => some (x, st.set n (.lst r))
        | [] => none
      | .pop, [] => match xs.getLast? with
        | some x => some (x, st.set n (.lst xs.dropLast))
        | none => none
      | .extend, [d] => match rdT st d with
        | some ys => if okLen (xs.length + ys.length) then some (.non, st.set n (.lst (xs ++ ys))) else none
        | none => none
      | _, _ => none
    | _ => none
  | _ => none
@[simp] def setD (st : Store) (o i v : D) : Option Store := match o, i with
  | .loc n, .tup ds => match st[n]? with
    | some (.dT kvs) => match keyD ds with
      | some k => if okLen (kvs.length + 1) then some (st.set n (.dT (pK kvs k v))) else none
      | none => none
    | _ => none
  | .loc n, .int k => match st[n]? with
    | some (.lst xs) => match ixN xs.length k with
      | some j => some (st.set n (.lst (xs.set j v)))
      | none => none
    | _ => none
  | _, _ => none

/-! ### the clean programs -/
mutual
inductive CE where
  | var (i : Nat)
  | int (i : Int) | bl (b : Bool) | non | str (s : Str)
  | bin (op : Operator) (a b : CE)
  | neg (a : CE)
  | cmp (op : CmpOp) (a b : CE)
  | chain (o1 o2 : CmpOp) (a b c : CE)
  | isC (a : CE) (c : D) (neg : Bool)
  | not (a : CE) | and (a b : CE) | or (a b : CE)
  | ife (t a b : CE)
  | tup (as : CA) | lst (as : CA)
  | adopt (a : CE)
  | bi (f : BI) (as : CA)
  | isi (a : CE) (ts : List TyN)
  | cal (f : Str) (as : CA)
  | met (m : MI) (o : CE) (as : CA)
  | idx (a i : CE)
  | slc (a : CE) (lo hi : CO)
  | rngS (lo : CO) (hi : CE) (tup : Bool)
  | comp (g : CT) (it : CI) (ifs : CO) (elt : CE) (own : List Nat)
  | rev (a : CE) | lenS (a : CE)
  | dctN | dct1 (k v : CE)
inductive CA where
  | nil | cons (a : CE) (as : CA)
inductive CO where
  | no | so (a : CE)
inductive CI where
  | over (a : CE) | rng (as : CA) | enm (a : CE) | zip (a b : CE)
inductive CT where
  | nm (i : Nat) | tup (ts : CTs) | sub (o i : CE)
inductive CTs where
  | nil | cons (t : CT) (ts : CTs)
end
/-! ### running them -/
abbrev CF := Str → List D → M D
section
variable (cf : CF)
/-- the items of a comprehension, a for; and what must stay so -/
inductive Src where
  | fix (ds : List D)
  | at (n : Nat) (ds : List D)
@[simp] def Src.items : Src → List D
  | .fix ds => ds
  | .at _ ds => ds
@[simp] def Src.ok (st : Store) : Src → Bool
  | .fix _ => true
  | .at n ds => match st[n]? with
    | some (.lst xs) => Ds.beq xs ds
    | _ => false
/-- a[::-1] -/
def revD (st : Store) : D → Option E
  | .tup xs => some (.v (.tup xs.reverse))
  | d => match rdL st d with
    | some xs => some (.f xs.reverse)
    | none => none
/-- len(set(a)), ints that differ -/
def lenSD (st : Store) (d : D) : Option E := match rdL st d with
  | some xs => match ints? xs with
    | some is => if is.Nodup ∧ is.length ≤ 4000 then some (.v (.int (is.length : Nat))) else none
    | none => none
  | none => none
def dct1D : D → D → Option O
  | .tup ds, v => match keyD ds with
    | some k => some (.dT [(k, v)])
    | none => none
  | _, _ => none
def rngC (hi lo : Int) : List D := (List.range (hi - lo).toNat).map fun k => .int (hi - (k : Nat))
def rngD (lo hi : Int) : List D := (List.range (hi - lo).toNat).map fun k => .int (lo + (k : Nat))
def okB (i : Int) : Bool := decide (-100000 ≤ i) && decide (i ≤ 100000)
def okR (i : Int) : Bool := decide (-(2 ^ 62) ≤ i) && decide (i < 2 ^ 62)
@[simp] def overD (st : Store) : D → Option Src
  | .tup xs => some (.fix xs)
  | .lst xs => some (.fix xs)
  | .rol xs => some (.fix xs)
  | .loc n => match st[n]? with
    | some (.lst xs) => some (.at n xs)
    | _ => none
  | _ => none
def enmD : Nat → List D → List D
  | _, [] => []
  | k, x :: r => .tup [.int (k : Nat), x] :: enmD (k + 1) r
def zipD : List D → List D → List D
  | x :: r, y :: t => .tup [x, y] :: zipD r t
  | _, _ => []
@[simp] def wipeE (env : Env) : List Nat → Env
  | [] => env
  | v :: vs => (wipeE env vs).set v none
/-- the turns of a comprehension: an item kept, or dropped; the store grows by nothing -/
def compGo (src : Src) (n : Nat) (turn : D → Store → Option (Option D × Store)) : List D → List D → Store → Option (List D × Store)
  | [], acc, st => if src.ok st = true then some (acc, st) else none
  | d :: r, acc, st => if src.ok st = true ∧ acc.length < 100000 then match turn d st with
      | some (some x, st1) => if st1.length = n then compGo src n turn r (acc ++ [x]) st1 else none
      | some (none, st1) => if st1.length = n then compGo src n turn r acc st1 else none
      | none => none
    else none
/-- an expression, as a value and as a test -/
structure EV where
  x : M E
  t : M Bool
@[simp] def mkE (x : M E) : EV := ⟨x, bnd x fun v => fun st => lft (truD st v.val) st⟩
mutual
@[simp] def ev : CE → Env → EV
  | .var i, env => mkE <| lft (match env[i]? with | some (some d) => some (.v d) | _ => none)
  | .int i, _ => mkE <| ret (.v (.int i))
  | .bl b, _ => mkE <| ret (.v (.bl b))
  | .non, _ => mkE <| ret (.v .non)
  | .str s, _ => mkE <| ret (.v (.str s))
  | .bin op a b, env => mkE <| bnd ((ev a env).x) fun x => bnd ((ev b env).x) fun y => fun st => lft (binD st op x.val y.val) st
  | .neg a, env => mkE <| bnd ((ev a env).x) fun x => match x with | .v (.int i) => ret (.v (.int (-i))) | _ => lft none
  | .cmp op a b, env => mkE <| bnd ((ev a env).x) fun x => bnd ((ev b env).x) fun y => fun st => lft ((cmpD st op x.val y.val).map fun b => .v (.bl b)) st
  | .chain o1 o2 a b c, env => mkE <| bnd ((ev a env).x) fun x => bnd ((ev b env).x) fun y => fun st => match cmpD st o1 x.val y.val with
    | some true => bnd ((ev c env).x) (fun z => fun st => lft ((cmpD st o2 y.val z.val).map fun b => .v (.bl b)) st) st
    | some false => some (.ok (.v (.bl false)), st)
    | none => none
  | .isC a c neg, env => mkE <| bnd ((ev a env).x) fun x => lft ((isD x.val c).map fun b => .v (.bl (if neg then !b else b)))
  | .not a, env => ⟨bnd (ev a env).x fun x => fun st => lft ((truD st x.val).map fun b => .v (.bl (!b))) st, bnd (ev a env).t fun b => ret (!b)⟩
  | .and a b, env => ⟨bnd ((ev a env).x) fun x => match x with
    | .v (.bl true) => (ev b env).x
    | .v (.bl false) => ret (.v (.bl false))
    | _ => lft none,
      bnd (ev a env).t fun c => if c then (ev b env).t else ret false⟩
  | .or a b, env => ⟨bnd ((ev a env).x) fun x => match x with
    | .v (.bl true) => ret (.v (.bl true))
    | .v (.bl false) => (ev b env).x
    | x => fun st => match rdT st x.val with
      | some [] => (ev b env).x st
      | some _ => some (.ok x, st)
      | none => none,
      bnd (ev a env).t fun c => if c then ret true else (ev b env).t⟩
  | .ife t a b, env => mkE <| bnd ((ev t env).t) fun c => if c then (ev a env).x else (ev b env).x
  | .tup as, env => mkE <| bnd (evA as env) fun ds => if okLen ds.length then ret (.v (.tup ds)) else lft none
  | .lst as, env => mkE <| bnd (evA as env) fun ds => if okLen ds.length then ret (.f ds) else lft none
  | .adopt a, env => mkE <| bnd ((ev a env).x) fun x => match x with
    | .f ds => fun st => some (.ok (.v (.loc st.length)), st ++ [.lst ds])
    | _ => lft none
  | .bi f as, env => mkE <| bnd (evA as env) fun ds => fun st => lft (biD st f ds) st
  | .isi a ts, env => mkE <| bnd ((ev a env).x) fun x => fun st => lft ((isiD st x.val ts).map fun b => .v (.bl b)) st
  | .cal f as, env => mkE <| bnd (evA as env) fun ds => bnd (cf f ds) fun d => ret (.v d)
  | .met m o as, env => mkE <| bnd ((ev o env).x) fun x => fun st => match rdT st x.val with
    | some _ => bnd (evA as env) (fun ds => fun st => match metD st m x.val ds with
      | some (d, st1) => some (.ok (.v d), st1)
      | none => none) st
    | none => none
  | .idx a i, env => mkE <| bnd ((ev a env).x) fun x => bnd ((ev i env).x) fun y => fun st => lft ((idxD st x.val y.val).map E.v) st
  | .slc a lo hi, env => mkE <| bnd ((ev a env).x) fun x => bnd (evO lo env) fun l => bnd (evO hi env) fun h => fun st => lft (slcD st x.val l h) st
  | .rngS lo hi tup, env => mkE <| bnd (evO lo env) fun l => bnd ((ev hi env).x) fun h => match h with
    | .v (.int j) => if okB (l.getD 0) && okB j then (if tup then ret (.v (.tup (rngD (l.getD 0) j))) else ret (.f (rngD (l.getD 0) j))) else lft none
    | _ => lft none
  | .comp g it ifs elt own, env => mkE <| bnd (evI it env) fun src => fun st =>
      match compGo src st.length (fun d st1 => match bdT g d (wipeE env own) st1 with
        | some (.ok env1, st2) => match evC ifs env1 st2 with
          | some (.ok true, st3) => match (ev elt env1).x st3 with
            | some (.ok x, st4) => some (some x.val, st4)
            | _ => none
          | some (.ok false, st3) => some (none, st3)
          | _ => none
        | _ => none) src.items [] st with
      | some (ds, st1) => some (.ok (.f ds), st1)
      | none => none
  | .rev a, env => mkE <| bnd ((ev a env).x) fun x => fun st => lft (revD st x.val) st
  | .lenS a, env => mkE <| bnd ((ev a env).x) fun x => fun st => lft (lenSD st x.val) st
  | .dctN, _ => mkE <| fun st => some (.ok (.v (.loc st.length)), st ++ [.dT []])
  | .dct1 k v, env => mkE <| bnd ((ev k env).x) fun x => bnd ((ev v env).x) fun y => fun st => match dct1D x.val y.val with
    | some o => some (.ok (.v (.loc st.length)), st ++ [o])
    | none => none
@[simp] def evA : CA → Env → M (List D)
  | .nil, _ => ret []
  | .cons a as, env => bnd ((ev a env).x) fun x => bnd (evA as env) fun ds => ret (x.val :: ds)
@[simp] def evO : CO → Env → M (Option Int)
  | .no, _ => ret none
  | .so a, env => bnd ((ev a env).x) fun x => match x with | .v (.int i) => ret (some i) | _ => lft none
@[simp] def evC : CO → Env → M Bool
  | .no, _ => ret true
  | .so a, env => (ev a env).t
@[simp] def evI : CI → Env → M Src
  | .over a, env => bnd ((ev a env).x) fun x => fun st => lft (overD st x.val) st
  | .rng as, env => bnd (evA as env) fun ds => match ds with
    | [.int n] => if okR n then ret (.fix (rngD 0 n)) else lft none
    | [.int a, .int b] => if okR a && okR b then ret (.fix (rngD a b)) else lft none
    | [.int a, .int b, .int (-1)] => if okR a && okR b then ret (.fix (rngC a b)) else lft none
    | _ => lft none
  | .enm a, env => bnd ((ev a env).x) fun x => fun st => match x.val with
    | .tup xs => some (.ok (.fix (enmD 0 xs)), st)
    | .lst xs => some (.ok (.fix (enmD 0 xs)), st)
    | .rol xs => some (.ok (.fix (enmD 0 xs)), st)
    | _ => none
  | .zip a b, env => bnd ((ev a env).x) fun x => bnd ((ev b env).x) fun y => fun st => match x.val, y.val with
    | .tup xs, .tup ys => some (.ok (.fix (zipD xs ys)), st)
    | .lst xs, .lst ys => some (.ok (.fix (zipD xs ys)), st)
    | .tup xs, .lst ys => some (.ok (.fix (zipD xs ys)), st)
    | .lst xs, .tup ys => some (.ok (.fix (zipD xs ys)), st)
    | _, _ => none
@[simp] def bdT : CT → D → Env → M Env
  | .nm i, d, env => if i < env.length then ret (env.set i (some d)) else lft none
  | .tup ts, d, env => match d with
    | .tup ds => bdTs ts ds env
    | .lst ds => bdTs ts ds env
    | _ => lft none
  | .sub o i, d, env => bnd ((ev o env).x) fun x => bnd ((ev i env).x) fun y => fun st => match setD st x.val y.val d with
    | some st1 => some (.ok env, st1)
    | none => none
@[simp] def bdTs : CTs → List D → Env → M Env
  | .nil, [], env => ret env
  | .cons t ts, d :: ds, env => bnd (bdT t d env) fun env1 => bdTs ts ds env1
  | _, _, _ => lft none
end
@[simp] abbrev evX (e : CE) (env : Env) : M E := (ev cf e env).x
@[simp] abbrev evT (e : CE) (env : Env) : M Bool := (ev cf e env).t
end

/-! ### statements -/
/-- an except suite -/
inductive SU where
  | ret (d : D) | retP (s f : Str) | asg (i : Nat) (d : D)
structure Hd where
  cls : List Str
  as : Option Nat
  su : SU
mutual
inductive CS where
  | asg (t : CT) (e : CE)
  | par (i j : Nat) (a b : CE)
  | par3 (i j l : Nat) (a b c : CE)
  | aug (i : Nat) (op : Operator) (e : CE)
  | augS (o i : CE) (op : Operator) (e : CE)
  | ret (e : CE) | retN
  | drop (e : CE)
  | ite (t : CE) (a b : CSs)
  | frs (t : CT) (it : CI) (b : CSs)
  | whl (t : CE) (b : CSs)
  | brk | cnt | pass
  | rai (cls : Str) (arg : CO)
  | try1 (b : CSs) (h : Hd)
  | try2 (b : CSs) (h1 h2 : Hd)
inductive CSs where
  | nil | cons (s : CS) (r : CSs)
end
inductive Out where
  | nx (env : Env) (st : Store)
  | rt (d : D) (st : Store)
  | bk (env : Env) (st : Store)
  | ct (env : Env) (st : Store)
  | ex (x : XD) (env : Env) (st : Store)
/-- the turns of a for -/
def forGo (src : Src) (turn : D → Env → Store → Option Out) : List D → Env → Store → Option Out
  | [], env, st => if src.ok st = true then some (.nx env st) else none
  | d :: r, env, st => if src.ok st = true then match turn d env st with
      | some (.nx env1 st1) => forGo src turn r env1 st1
      | some (.ct env1 st1) => forGo src turn r env1 st1
      | some (.bk env1 st1) => some (.nx env1 st1)
      | some o => some o
      | none => none
    else none
/-- .. of a while -/
def whlGo (test : Env → M Bool) (body : Env → Store → Option Out) : Nat → Env → Store → Option Out
  | 0, _, _ => none
  | n + 1, env, st => match test env st with
    | some (.ok true, st1) => match body env st1 with
      | some (.nx env1 st2) => whlGo test body n env1 st2
      | some (.ct env1 st2) => whlGo test body n env1 st2
      | some (.bk env1 st2) => some (.nx env1 st2)
      | some o => some o
      | none => none
    | some (.ok false, st1) => some (.nx env st1)
    | some (.ex x, st1) => some (.ex x env st1)
    | none => none
def fuel : Nat := 100000
/-- an expression, then what is done with its value -/
@[simp] def thnS {α : Type} (m : M α) (env : Env) (st : Store) (k : α → Store → Option Out) : Option Out := match m st with
  | some (.ok a, st1) => k a st1
  | some (.ex x, st1) => some (.ex x env st1)
  | none => none
/-- the item that op= changes -/
@[simp] def augI (st : Store) (x i : D) : Option D := match x, i with
  | .loc n, .int k => match st[n]? with
    | some (.lst xs) => if 0 ≤ k then xs[k.toNat]? else none
    | _ => none
  | _, _ => none
@[simp] def augD (op : Operator) (x y : D) : Option D := match op, x, y with
  | .Add, .int i, .int j => some (.int (i + j))
  | .Sub, .int i, .int j => some (.int (i - j))
  | _, _, _ => none
def suRun (x : XD) (env : Env) (st : Store) (h : Hd) : Option Out := match h.as, h.su with
  | none, .ret d => some (.rt d st)
  | some _, .ret d => some (.rt d st)
  | some i, .retP s _ => match x.arg with
    | some v => if i < env.length then some (.rt (.tup [.str s, v]) st) else none
    | none => none
  | none, .asg i d => if i < env.length then some (.nx (env.set i (some d)) st) else none
  | _, _ => none
section
variable (cf : CF)
mutual
@[simp] def evS : CS → Env → Store → Option Out
  | .asg t e, env, st => thnS (evX cf e env) env st fun x st1 => match bdT cf t x.val env st1 with
    | some (.ok env1, st2) => some (.nx env1 st2)
    | _ => none
  | .par i j a b, env, st => thnS (evX cf a env) env st fun x st1 => thnS (evX cf b env) env st1 fun y st2 =>
    if i < env.length ∧ j < env.length then some (.nx ((env.set i (some x.val)).set j (some y.val)) st2) else none
  | .par3 i j l a b c, env, st => thnS (evX cf a env) env st fun x st1 => thnS (evX cf b env) env st1 fun y st2 => thnS (evX cf c env) env st2 fun z st3 =>
    if i < env.length ∧ j < env.length ∧ l < env.length then some (.nx (((env.set i (some x.val)).set j (some y.val)).set l (some z.val)) st3) else none
  | .aug i op e, env, st => match env[i]? with
    | some (some x) => thnS (evX cf e env) env st fun y st1 => match augD op x y.val with
      | some d => some (.nx (env.set i (some d)) st1)
      | none => none
    | _ => none
  | .augS o i op e, env, st => thnS (evX cf o env) env st fun x st1 => thnS (evX cf i env) env st1 fun y st2 => match augI st2 x.val y.val with
    | some old => thnS (evX cf e env) env st2 fun z st3 => match augD op old z.val with
      | some d => match setD st3 x.val y.val d with
        | some st4 => some (.nx env st4)
        | none => none
      | none => none
    | none => none
  | .ret e, env, st => thnS (evX cf e env) env st fun x st1 => some (.rt x.val st1)
  | .retN, _, st => some (.rt .non st)
  | .drop e, env, st => thnS (evX cf e env) env st fun _ st1 => some (.nx env st1)
  | .ite t a b, env, st => thnS (evT cf t env) env st fun c st1 => if c then evSs a env st1 else evSs b env st1
  | .frs t it b, env, st => thnS (evI cf it env) env st fun src st1 => forGo src (fun d env1 st2 => match bdT cf t d env1 st2 with
      | some (.ok env2, st3) => evSs b env2 st3
      | _ => none) src.items env st1
  | .whl t b, env, st => whlGo (evT cf t) (evSs b) fuel env st
  | .brk, env, st => some (.bk env st)
  | .cnt, env, st => some (.ct env st)
  | .pass, env, st => some (.nx env st)
  | .rai c .no, env, st => some (.ex ⟨c, none⟩ env st)
  | .rai c (.so a), env, st => thnS (evX cf a env) env st fun x st1 => some (.ex ⟨c, some x.val⟩ env st1)
  | .try1 b h, env, st => match evSs b env st with
    | some (.ex x env1 st1) => if h.cls.contains x.cls then suRun x env1 st1 h else some (.ex x env1 st1)
    | o => o
  | .try2 b h1 h2, env, st => match evSs b env st with
    | some (.ex x env1 st1) => if h1.cls.contains x.cls then suRun x env1 st1 h1 else if h2.cls.contains x.cls then suRun x env1 st1 h2 else some (.ex x env1 st1)
    | o => o
@[simp] def evSs : CSs → Env → Store → Option Out
  | .nil, env, st => some (.nx env st)
  | .cons s r, env, st => match evS s env st with
    | some (.nx env1 st1) => evSs r env1 st1
    | o => o
end
end

/-! ### defs -/
mutual
/-- every location within lies below n -/
def below (n : Nat) : D → Bool
  | .tup xs => belowL n xs
  | .lst xs => belowL n xs
  | .rol xs => belowL n xs
  | .loc m => decide (m < n)
  | _ => true
def belowL (n : Nat) : List D → Bool
  | [] => true
  | x :: xs => below n x && belowL n xs
end
mutual
/-- what was made within becomes a value that nobody changes -/
def frzD (f : Nat → Option D) : D → Option D
  | .non => some .non
  | .bl b => some (.bl b)
  | .int i => some (.int i)
  | .str s => some (.str s)
  | .tup xs => match frzL f xs with | some ys => some (.tup ys) | none => none
  | .lst xs => match frzL f xs with | some ys => some (.lst ys) | none => none
  | .rol xs => match frzL f xs with | some ys => some (.rol ys) | none => none
  | .loc m => f m
def frzL (f : Nat → Option D) : List D → Option (List D)
  | [] => some []
  | x :: xs => match frzD f x, frzL f xs with | some y, some ys => some (y :: ys) | _, _ => none
end
def frzAt : Nat → Store → Nat → Nat → Option D
  | 0, _, _, _ => none
  | k + 1, st, n, m => if m < n then some (.loc m) else match st[m]? with
    | some (.lst xs) => match frzL (frzAt k st n) xs with | some ys => some (.lst ys) | none => none
    | _ => none
def O.below (n : Nat) : O → Bool
  | .lst xs => belowL n xs
  | .dK kvs => kvs.all fun p => Cl.below n p.2
  | .dT kvs => kvs.all fun p => Cl.below n p.2
def O.beq : O → O → Bool
  | .lst xs, .lst ys => Ds.beq xs ys
  | .dK a, .dK b => decide (a.map (·.1) = b.map (·.1)) && Ds.beq (a.map (·.2)) (b.map (·.2))
  | .dT a, .dT b => decide (a.map (·.1) = b.map (·.1)) && Ds.beq (a.map (·.2)) (b.map (·.2))
  | _, _ => false
/-- what stood ahead of the call: as it was, or with no location of the call's own -/
def okPre (n : Nat) : Store → Store → Bool
  | [], _ => true
  | a :: r, b :: t => (O.beq a b || b.below n) && okPre n r t
  | _, _ => false
structure Df where
  name : Str
  ps : List Str
  N : List Str
  body : CSs
  frz : Bool
def Df.fin (frz : Bool) (st st1 : Store) (d : D) : Option (R D × Store) :=
  if frz then match frzD (frzAt 8 st1 st.length) d with
    | some e => if okPre st.length st st1 then some (.ok e, st1.take st.length) else none
    | none => none
  else some (.ok d, st1)
def Df.finX (frz : Bool) (st st1 : Store) (x : XD) : Option (R D × Store) :=
  if frz then match x.arg with
    | none => if okPre st.length st st1 then some (.ex x, st1.take st.length) else none
    | some v => match frzD (frzAt 8 st1 st.length) v with
      | some e => if okPre st.length st st1 then some (.ex ⟨x.cls, some e⟩, st1.take st.length) else none
      | none => none
  else some (.ex x, st1)
@[simp] def startE (N : List Str) (ds : List D) : Env := ds.map some ++ List.replicate (N.length - ds.length) none
@[simp] def Df.run (cf : CF) (d : Df) (ds : List D) : M D := fun st =>
  if ds.length = d.ps.length then match evSs cf d.body (startE d.N ds) st with
    | some (.nx _ st1) => Df.fin d.frz st st1 .non
    | some (.rt v st1) => Df.fin d.frz st st1 v
    | some (.ex x _ st1) => Df.finX d.frz st st1 x
    | _ => none
  else none
/-- the calls of a program: at most so deep -/
def calls (T : List Df) : Nat → CF
  | 0, _, _ => fun _ => none
  | k + 1, f, ds => match T.find? fun d => d.name == f with
    | some d => d.run (calls T k) ds
    | none => fun _ => none
end Cl

/-! Cl, part B: how the clean machine's values and store stand for the layer's. -/
namespace Cl
open PySem L2

/-! ### values -/
def KLst (K : PySem.W.Frag) (a : Addr) (xs : List V) : Prop :=
  ∃ (o : Obj) (its : Array Value) (n : Nat), K.lookup a = some o ∧ o.cls = .type "list" ∧ o.dict = none ∧ o.data = .seq its n ∧ its.size ≤ sizeLine ∧ Vals xs its.toList
/-- a tuple that stands where nothing changes -/
def TuF (K : PySem.W.Frag) (L M : List Addr) (H : Hp) (a : Addr) (vs : List V) : Prop := H a = some (.tup vs) ∧ a ∉ M ∧ a ∉ L
def LsF (K : PySem.W.Frag) (L M : List Addr) (H : Hp) (a : Addr) (vs : List V) : Prop := H a = some (.lst vs) ∧ a ∉ M ∧ a ∉ L
def RoF (K : PySem.W.Frag) (L M : List Addr) (H : Hp) (a : Addr) (vs : List V) : Prop := ((∃ o, H a = some (.frz o (.lst vs))) ∧ a ∉ M ∧ a ∉ L) ∨ KLst K a vs
mutual
inductive Val (K : PySem.W.Frag) (L M : List Addr) (H : Hp) : V → D → Prop where
  | non : Val K L M H .non .non
  | bl (b : Bool) : Val K L M H (.bl b) (.bl b)
  | int (i : Int) : Val K L M H (.int i) (.int i)
  | str (s : Str) : Val K L M H (.str s) (.str s)
  | tup {a : Addr} {vs : List V} {ds : List D} (h : TuF K L M H a vs) (hs : Vls K L M H vs ds) : Val K L M H (.ref a) (.tup ds)
  | lst {a : Addr} {vs : List V} {ds : List D} (h : LsF K L M H a vs) (hs : Vls K L M H vs ds) : Val K L M H (.ref a) (.lst ds)
  | rol {a : Addr} {vs : List V} {ds : List D} (h : RoF K L M H a vs) (hs : Vls K L M H vs ds) : Val K L M H (.ref a) (.rol ds)
  | loc {a : Addr} {n : Nat} (h : M[n]? = some a) : Val K L M H (.ref a) (.loc n)
inductive Vls (K : PySem.W.Frag) (L M : List Addr) (H : Hp) : List V → List D → Prop where
  | nil : Vls K L M H [] []
  | cons {v : V} {d : D} {vs : List V} {ds : List D} (h : Val K L M H v d) (hs : Vls K L M H vs ds) : Vls K L M H (v :: vs) (d :: ds)
end
/-- later: what stood outside of the store's objects stands -/
structure Ext (M : List Addr) (H : Hp) (M' : List Addr) (H' : Hp) : Prop where
  pre : ∃ t, M' = M ++ t
  keep : ∀ b o, H b = some o → b ∉ M → H' b = some o ∧ b ∉ M'
theorem Ext.refl (M : List Addr) (H : Hp) : Ext M H M H := ⟨⟨[], by simp⟩, fun _ _ h n => ⟨h, n⟩⟩
theorem Ext.trans {M M1 M2 : List Addr} {H H1 H2 : Hp} (a : Ext M H M1 H1) (b : Ext M1 H1 M2 H2) : Ext M H M2 H2 := by
  obtain ⟨⟨t, rfl⟩, k1⟩ := a
  obtain ⟨⟨u, rfl⟩, k2⟩ := b
  exact ⟨⟨t ++ u, by simp⟩, fun c o h n => k2 c o (k1 c o h n).1 (k1 c o h n).2⟩
section
variable {K : PySem.W.Frag} {L M M' : List Addr} {H H' : Hp} {a : Addr} {vs : List V} {v : V} {d : D} {ds : List D}
theorem Ext.get (e : Ext M H M' H') {n : Nat} (h : M[n]? = some a) : M'[n]? = some a := by
  obtain ⟨t, rfl⟩ := e.pre
  rw [List.getElem?_append_left (List.getElem?_eq_some_iff.mp h).1]
  exact h
theorem TuF.ext (e : Ext M H M' H') (h : TuF K L M H a vs) : TuF K L M' H' a vs :=
  ⟨(e.keep a _ h.1 h.2.1).1, (e.keep a _ h.1 h.2.1).2, h.2.2⟩
theorem LsF.ext (e : Ext M H M' H') (h : LsF K L M H a vs) : LsF K L M' H' a vs :=
  ⟨(e.keep a _ h.1 h.2.1).1, (e.keep a _ h.1 h.2.1).2, h.2.2⟩
theorem RoF.ext (e : Ext M H M' H') (h : RoF K L M H a vs) : RoF K L M' H' a vs := by
  rcases h with ⟨⟨o, h⟩, n, l⟩ | h
  · exact .inl ⟨⟨o, (e.keep a _ h n).1⟩, (e.keep a _ h n).2, l⟩
  · exact .inr h
theorem TuF.sq (h : TuF K L M H a vs) : SqT K H a vs := .inl (.inl h.1)
theorem LsF.sq (h : LsF K L M H a vs) : SqL K H a vs := .inl (.inl h.1)
theorem RoF.sq (h : RoF K L M H a vs) : SqL K H a vs := by
  rcases h with ⟨⟨o, h⟩, _⟩ | h
  · exact .inl (.inr ⟨o, h⟩)
  · exact .inr h
mutual
theorem Val.ext (e : Ext M H M' H') : ∀ {d : D} {v : V}, Val K L M H v d → Val K L M' H' v d
  | .non, _, h => by cases h; exact .non
  | .bl _, _, h => by cases h; exact .bl _
  | .int _, _, h => by cases h; exact .int _
  | .str _, _, h => by cases h; exact .str _
  | .tup ds, _, h => by cases h with | tup h hs => exact .tup (h.ext e) (Vls.ext e hs)
  | .lst ds, _, h => by cases h with | lst h hs => exact .lst (h.ext e) (Vls.ext e hs)
  | .rol ds, _, h => by cases h with | rol h hs => exact .rol (h.ext e) (Vls.ext e hs)
  | .loc n, _, h => by cases h with | loc h => exact .loc (e.get h)
theorem Vls.ext (e : Ext M H M' H') : ∀ {ds : List D} {vs : List V}, Vls K L M H vs ds → Vls K L M' H' vs ds
  | [], _, h => by cases h; exact .nil
  | d :: ds, _, h => by cases h with | cons h hs => exact .cons (Val.ext e h) (Vls.ext e hs)
end
mutual
/-- a new place is hidden: nothing known leans on it -/
theorem Val.hide {p : Addr} (hp : H p = none) : ∀ {d : D} {v : V}, Val K L M H v d → Val K (p :: L) M H v d
  | .non, _, h => by cases h; exact .non
  | .bl _, _, h => by cases h; exact .bl _
  | .int _, _, h => by cases h; exact .int _
  | .str _, _, h => by cases h; exact .str _
  | .tup ds, _, h => by
    cases h with
    | tup h hs =>
      refine .tup ?_ (Vls.hide hp hs)
      obtain ⟨h, n, l⟩ := h
      exact ⟨h, n, fun q => (List.mem_cons.mp q).elim (ne_of_none h hp) l⟩
  | .lst ds, _, h => by
    cases h with
    | lst h hs =>
      refine .lst ?_ (Vls.hide hp hs)
      obtain ⟨h, n, l⟩ := h
      exact ⟨h, n, fun q => (List.mem_cons.mp q).elim (ne_of_none h hp) l⟩
  | .rol ds, _, h => by
    cases h with
    | rol h hs =>
      refine .rol ?_ (Vls.hide hp hs)
      rcases h with ⟨⟨o, h⟩, n, l⟩ | h
      · exact .inl ⟨⟨o, h⟩, n, fun q => (List.mem_cons.mp q).elim (ne_of_none h hp) l⟩
      · exact .inr h
  | .loc n, _, h => by cases h with | loc h => exact .loc h
theorem Vls.hide {p : Addr} (hp : H p = none) : ∀ {ds : List D} {vs : List V}, Vls K L M H vs ds → Vls K (p :: L) M H vs ds
  | [], _, h => by cases h; exact .nil
  | d :: ds, _, h => by cases h with | cons h hs => exact .cons (Val.hide hp h) (Vls.hide hp hs)
end
mutual
theorem Val.show {p : Addr} : ∀ {d : D} {v : V}, Val K (p :: L) M H v d → Val K L M H v d
  | .non, _, h => by cases h; exact .non
  | .bl _, _, h => by cases h; exact .bl _
  | .int _, _, h => by cases h; exact .int _
  | .str _, _, h => by cases h; exact .str _
  | .tup ds, _, h => by
    cases h with
    | tup h hs =>
      refine .tup ?_ (Vls.show hs)
      obtain ⟨h, n, l⟩ := h
      exact ⟨h, n, fun q => l (List.mem_cons_of_mem _ q)⟩
  | .lst ds, _, h => by
    cases h with
    | lst h hs => exact .lst ⟨h.1, h.2.1, fun q => h.2.2 (List.mem_cons_of_mem _ q)⟩ (Vls.show hs)
  | .rol ds, _, h => by
    cases h with
    | rol h hs =>
      refine .rol ?_ (Vls.show hs)
      rcases h with ⟨h, n, l⟩ | h
      · exact .inl ⟨h, n, fun q => l (List.mem_cons_of_mem _ q)⟩
      · exact .inr h
  | .loc n, _, h => by cases h with | loc h => exact .loc h
theorem Vls.show {p : Addr} : ∀ {ds : List D} {vs : List V}, Vls K (p :: L) M H vs ds → Vls K L M H vs ds
  | [], _, h => by cases h; exact .nil
  | d :: ds, _, h => by cases h with | cons h hs => exact .cons (Val.show h) (Vls.show hs)
end
theorem Vls.length : ∀ {ds : List D} {vs : List V}, Vls K L M H vs ds → vs.length = ds.length
  | [], _, h => by cases h; rfl
  | d :: ds, _, h => by cases h with | cons h hs => simp [Vls.length hs]
theorem Vls.get : ∀ {ds : List D} {vs : List V} {i : Nat} {d : D}, Vls K L M H vs ds → ds[i]? = some d → ∃ v, vs[i]? = some v ∧ Val K L M H v d
  | [], _, _, _, _, e => by simp at e
  | d :: ds, _, 0, _, h, e => by cases h with | cons h hs => simp at e; subst e; exact ⟨_, rfl, h⟩
  | d :: ds, _, i + 1, _, h, e => by
    cases h with
    | cons h hs =>
      obtain ⟨v, h1, h2⟩ := Vls.get (i := i) hs (by simpa using e)
      exact ⟨v, by simpa using h1, h2⟩
theorem Vls.getV : ∀ {ds : List D} {vs : List V} {i : Nat} {v : V}, Vls K L M H vs ds → vs[i]? = some v → ∃ d, ds[i]? = some d ∧ Val K L M H v d
  | [], _, _, _, h, e => by cases h; simp at e
  | d :: ds, _, 0, _, h, e => by cases h with | cons h hs => simp at e; subst e; exact ⟨_, rfl, h⟩
  | d :: ds, _, i + 1, _, h, e => by
    cases h with
    | cons h hs =>
      obtain ⟨v, h1, h2⟩ := Vls.getV (i := i) hs (by simpa using e)
      exact ⟨v, by simpa using h1, h2⟩
theorem Vls.append : ∀ {ds es : List D} {vs us : List V}, Vls K L M H vs ds → Vls K L M H us es → Vls K L M H (vs ++ us) (ds ++ es)
  | [], _, _, _, h, k => by cases h; exact k
  | d :: ds, _, _, _, h, k => by cases h with | cons h hs => exact .cons h (Vls.append hs k)
theorem Vls.drop : ∀ {ds : List D} {vs : List V} (n : Nat), Vls K L M H vs ds → Vls K L M H (vs.drop n) (ds.drop n)
  | ds, vs, 0, h => by simpa using h
  | [], _, n + 1, h => by cases h; exact .nil
  | d :: ds, _, n + 1, h => by cases h with | cons h hs => simpa using Vls.drop n hs
theorem Vls.take : ∀ {ds : List D} {vs : List V} (n : Nat), Vls K L M H vs ds → Vls K L M H (vs.take n) (ds.take n)
  | ds, vs, 0, h => by simpa using (.nil : Vls K L M H [] [])
  | [], _, n + 1, h => by cases h; exact .nil
  | d :: ds, _, n + 1, h => by cases h with | cons h hs => simpa using Vls.cons h (Vls.take n hs)
theorem Vls.set : ∀ {ds : List D} {vs : List V} {v : V} {d : D} (n : Nat), Vls K L M H vs ds → Val K L M H v d → Vls K L M H (vs.set n v) (ds.set n d)
  | [], _, _, _, _, h, _ => by cases h; exact .nil
  | e :: ds, _, _, _, 0, h, k => by cases h with | cons h hs => exact .cons k hs
  | e :: ds, _, _, _, n + 1, h, k => by cases h with | cons h hs => exact .cons h (Vls.set n hs k)
theorem Vls.rep {ds : List D} {vs : List V} (h : Vls K L M H vs ds) : ∀ k : Nat, Vls K L M H (List.replicate k vs).flatten (List.replicate k ds).flatten
  | 0 => .nil
  | k + 1 => by
    rw [List.replicate_succ, List.replicate_succ, List.flatten_cons, List.flatten_cons]
    exact Vls.append h (Vls.rep h k)
theorem Vls.dropLast {ds : List D} {vs : List V} (h : Vls K L M H vs ds) : Vls K L M H vs.dropLast ds.dropLast := by
  rw [List.dropLast_eq_take, List.dropLast_eq_take, h.length]
  exact h.take _
theorem Vls.bls : ∀ {ds : List D} {vs : List V} {bs : List Bool}, Vls K L M H vs ds → bls? ds = some bs → vs = bs.map V.bl
  | [], _, _, h, e => by cases h; simp [bls?] at e; subst e; rfl
  | d :: ds, _, bs, h, e => by
    cases h with
    | cons h hs =>
      cases h <;> simp only [bls?] at e <;> try (cases e)
      rename_i b
      split at e
      · rename_i bs' e'
        cases e
        rw [Vls.bls hs e']
        rfl
      · cases e
theorem Vls.ints : ∀ {ds : List D} {vs : List V} {is : List Int}, Vls K L M H vs ds → ints? ds = some is → vs = is.map V.int
  | [], _, _, h, e => by cases h; simp [ints?] at e; subst e; rfl
  | d :: ds, _, bs, h, e => by
    cases h with
    | cons h hs =>
      cases h <;> simp only [ints?] at e <;> try (cases e)
      rename_i b
      split at e
      · rename_i bs' e'
        cases e
        rw [Vls.ints hs e']
        rfl
      · cases e
theorem Vls.ofInts : ∀ (is : List Int), Vls K L M H (is.map V.int) (is.map D.int)
  | [] => .nil
  | i :: is => .cons (.int i) (Vls.ofInts is)
end

/-! ### the store -/
def KvR {κ : Type} (K : PySem.W.Frag) (L M : List Addr) (H : Hp) : List (κ × V) → List (κ × D) → Prop := Paired fun p q => p.1 = q.1 ∧ Val K L M H p.2 q.2
def ObjR (K : PySem.W.Frag) (L M : List Addr) (H : Hp) (a : Addr) : O → Prop
  | .lst ds => ∃ vs, H a = some (.lst vs) ∧ Vls K L M H vs ds
  | .dK kvs => ∃ ks, H a = some (.dK ks) ∧ KvR K L M H ks kvs
  | .dT kvs => ∃ ks, H a = some (.dT ks) ∧ KvR K L M H ks kvs
structure Rel (K : PySem.W.Frag) (L M : List Addr) (st : Store) (H : Hp) : Prop where
  len : M.length = st.length
  nd : M.Nodup
  obj : ∀ (n : Nat) (a : Addr) (o : O), M[n]? = some a → st[n]? = some o → ObjR K L M H a o
  hid : ∀ a ∈ L, a ∉ M ∧ H a ≠ none
section
variable {K : PySem.W.Frag} {L M M' : List Addr} {H H' : Hp} {a p : Addr} {st : Store} {o : O}
theorem KvR.ext {κ : Type} {ks : List (κ × V)} {kvs : List (κ × D)} (e : Ext M H M' H') (h : KvR K L M H ks kvs) : KvR K L M' H' ks kvs := Paired.mapP h fun _ _ z => ⟨z.1, z.2.ext e⟩
theorem ObjR.there (h : ObjR K L M H a o) : ∃ u, H a = some u := by
  cases o with
  | lst ds => obtain ⟨vs, e, _⟩ := h; exact ⟨_, e⟩
  | dK kvs => obtain ⟨vs, e, _⟩ := h; exact ⟨_, e⟩
  | dT kvs => obtain ⟨vs, e, _⟩ := h; exact ⟨_, e⟩
/-- an object of the store whose own place is as it was -/
theorem ObjR.same (e : Ext M H M' H') (k : H' a = H a) (h : ObjR K L M H a o) : ObjR K L M' H' a o := by
  cases o with
  | lst ds => obtain ⟨vs, q, r⟩ := h; exact ⟨vs, by rw [k]; exact q, r.ext e⟩
  | dK kvs => obtain ⟨vs, q, r⟩ := h; exact ⟨vs, by rw [k]; exact q, r.ext e⟩
  | dT kvs => obtain ⟨vs, q, r⟩ := h; exact ⟨vs, by rw [k]; exact q, r.ext e⟩
theorem Rel.at (r : Rel K L M st H) {n : Nat} (h : M[n]? = some a) : ∃ o, st[n]? = some o ∧ ObjR K L M H a o := by
  have hn : n < st.length := by rw [← r.len]; exact (List.getElem?_eq_some_iff.mp h).1
  exact ⟨st[n], List.getElem?_eq_getElem hn, r.obj n a _ h (List.getElem?_eq_getElem hn)⟩
theorem Rel.addr (r : Rel K L M st H) {n : Nat} (h : st[n]? = some o) : ∃ a, M[n]? = some a ∧ ObjR K L M H a o := by
  have hn : n < M.length := by rw [r.len]; exact (List.getElem?_eq_some_iff.mp h).1
  exact ⟨M[n], List.getElem?_eq_getElem hn, r.obj n _ _ (List.getElem?_eq_getElem hn) h⟩
theorem Rel.fresh (r : Rel K L M st H) (h : H p = none) : p ∉ M := fun hm => by
  obtain ⟨n, hn, e⟩ := List.mem_iff_getElem.mp hm
  obtain ⟨o, _, q⟩ := r.at (n := n) (a := p) (by rw [List.getElem?_eq_getElem hn, e])
  obtain ⟨u, hu⟩ := q.there
  rw [h] at hu; cases hu
theorem Rel.freshL (r : Rel K L M st H) (h : H p = none) : p ∉ L := fun hm => (r.hid p hm).2 h
/-- something new is laid that the store does not hold -/
theorem Ext.new {o : HO} (h : H p = none) (n : p ∉ M) : Ext M H M (upd H p o) := ⟨⟨[], by simp⟩, fun b u e nb => ⟨by rw [upd_ne (ne_of_none e h)]; exact e, nb⟩⟩
theorem Rel.new {o : HO} (r : Rel K L M st H) (h : H p = none) : Rel K L M st (upd H p o) := by
  refine ⟨r.len, r.nd, fun n a u e q => ?_, fun a ha => ⟨(r.hid a ha).1, ?_⟩⟩
  · have z := r.obj n a u e q
    obtain ⟨w, hw⟩ := z.there
    exact z.same (.new h (r.fresh h)) (upd_ne (ne_of_none hw h))
  · intro z
    by_cases hp : a = p
    · rw [hp, upd_same] at z; cases z
    · rw [upd_ne hp] at z; exact (r.hid a ha).2 z
theorem Rel.newTup {vs : List V} {ds : List D} (r : Rel K L M st H) (h : H p = none) (q : Vls K L M H vs ds) : Val K L M (upd H p (.tup vs)) (.ref p) (.tup ds) :=
  .tup ⟨upd_same, r.fresh h, r.freshL h⟩ (q.ext (.new h (r.fresh h)))
theorem Rel.newLst {vs : List V} {ds : List D} (r : Rel K L M st H) (h : H p = none) (q : Vls K L M H vs ds) : Val K L M (upd H p (.lst vs)) (.ref p) (.lst ds) :=
  .lst ⟨upd_same, r.fresh h, r.freshL h⟩ (q.ext (.new h (r.fresh h)))
/-- a new list becomes the store's -/
theorem Ext.adopt {o : HO} (h : H p = none) (n : p ∉ M) : Ext M H (M ++ [p]) (upd H p o) :=
  ⟨⟨[p], rfl⟩, fun b u e nb => ⟨by rw [upd_ne (ne_of_none e h)]; exact e, fun z => (List.mem_append.mp z).elim nb fun z => ne_of_none e h (by simpa using z)⟩⟩
theorem Rel.adoptO {o : O} {u : HO} (r : Rel K L M st H) (h : H p = none) (q : ObjR K L (M ++ [p]) (upd H p u) p o) : Rel K L (M ++ [p]) (st ++ [o]) (upd H p u) := by
  have np := r.fresh h
  have ex : Ext M H (M ++ [p]) (upd H p u) := .adopt h np
  refine ⟨by simp [r.len], ?_, fun n a w0 e z => ?_, fun a ha => ⟨?_, ?_⟩⟩
  · rw [List.nodup_append]
    exact ⟨r.nd, by simp, fun x hx y hy => by simp at hy; subst hy; exact fun z => np (z ▸ hx)⟩
  · by_cases hn : n < M.length
    · rw [List.getElem?_append_left hn] at e
      rw [List.getElem?_append_left (by rw [← r.len]; exact hn)] at z
      have w := r.obj n a w0 e z
      obtain ⟨x, hx⟩ := w.there
      exact w.same ex (upd_ne (ne_of_none hx h))
    · have hn' : n = M.length := by
        have := (List.getElem?_eq_some_iff.mp e).1
        simp at this
        omega
      subst hn'
      rw [List.getElem?_append_right (Nat.le_refl _)] at e
      rw [r.len, List.getElem?_append_right (Nat.le_refl _)] at z
      simp at e z
      subst e z
      exact q
  · intro z
    rcases List.mem_append.mp z with z | z
    · exact (r.hid a ha).1 z
    · exact r.freshL h (by simp at z; rw [← z]; exact ha)
  · intro z
    by_cases hp : a = p
    · rw [hp, upd_same] at z; cases z
    · rw [upd_ne hp] at z; exact (r.hid a ha).2 z
theorem Rel.adopt {vs : List V} {ds : List D} (r : Rel K L M st H) (h : H p = none) (q : Vls K L M H vs ds) : Rel K L (M ++ [p]) (st ++ [.lst ds]) (upd H p (.lst vs)) :=
  r.adoptO h ⟨vs, upd_same, q.ext (.adopt h (r.fresh h))⟩
/-- an object of the store is changed -/
theorem Ext.write {o : HO} (h : a ∈ M) : Ext M H M (upd H a o) :=
  ⟨⟨[], by simp⟩, fun b u e nb => ⟨by rw [upd_ne (show b ≠ a from fun z => nb (by rw [z]; exact h))]; exact e, nb⟩⟩
theorem Rel.write {n : Nat} {o' : O} {u : HO} (r : Rel K L M st H) (h : M[n]? = some a) (q : ObjR K L M (upd H a u) a o') : Rel K L M (st.set n o') (upd H a u) := by
  have ha : a ∈ M := List.mem_of_getElem? h
  refine ⟨by simp [r.len], r.nd, fun m b w e z => ?_, fun b hb => ⟨(r.hid b hb).1, ?_⟩⟩
  · by_cases hm : n = m
    · subst hm
      rw [h] at e; cases e
      have hl : n < st.length := by rw [← r.len]; exact (List.getElem?_eq_some_iff.mp h).1
      rw [List.getElem?_set_self hl] at z
      cases z
      exact q
    · rw [List.getElem?_set_ne hm] at z
      have w' := r.obj m b w e z
      refine w'.same (.write ha) (upd_ne fun c => hm ?_)
      subst c
      obtain ⟨h1, e1⟩ := List.getElem?_eq_some_iff.mp h
      obtain ⟨h2, e2⟩ := List.getElem?_eq_some_iff.mp e
      exact (List.getElem_inj r.nd).mp (e1.trans e2.symm)
  · intro z
    by_cases hp : b = a
    · rw [hp, upd_same] at z; cases z
    · rw [upd_ne hp] at z; exact (r.hid b hb).2 z
theorem Rel.writeL {n : Nat} {vs : List V} {ds : List D} (r : Rel K L M st H) (h : M[n]? = some a) (q : Vls K L M H vs ds) : Rel K L M (st.set n (.lst ds)) (upd H a (.lst vs)) :=
  r.write h ⟨vs, upd_same, q.ext (.write (List.mem_of_getElem? h))⟩
end
/-- the def's names -/
def RelE (K : PySem.W.Frag) (L M : List Addr) (H : Hp) (σ : St) (env : Env) : Prop :=
  σ.length = env.length ∧ ∀ (i : Nat) (d : D), env[i]? = some (some d) → ∃ v : V, σ[i]? = some (some v) ∧ Val K L M H v d
section
variable {K : PySem.W.Frag} {L M M' : List Addr} {H H' : Hp} {σ : St} {env : Env} {v : V} {d : D}
theorem RelE.ext (e : Ext M H M' H') (h : RelE K L M H σ env) : RelE K L M' H' σ env := ⟨h.1, fun i d q => let ⟨v, a, b⟩ := h.2 i d q; ⟨v, a, b.ext e⟩⟩
theorem RelE.hide {p : Addr} (hp : H p = none) (h : RelE K L M H σ env) : RelE K (p :: L) M H σ env := ⟨h.1, fun i d q => let ⟨v, a, b⟩ := h.2 i d q; ⟨v, a, b.hide hp⟩⟩
theorem RelE.set {i : Nat} (h : RelE K L M H σ env) (r : Val K L M H v d) : RelE K L M H (σ.set i (some v)) (env.set i (some d)) := by
  refine ⟨by simp [h.1], fun j e q => ?_⟩
  by_cases hj : i = j
  · subst hj
    by_cases hl : i < env.length
    · rw [List.getElem?_set_self hl] at q
      cases q
      exact ⟨v, List.getElem?_set_self (by rw [h.1]; exact hl), r⟩
    · rw [List.getElem?_eq_none (by simpa using hl)] at q
      cases q
  · rw [List.getElem?_set_ne hj] at q ⊢
    exact h.2 j e q
theorem RelE.unset {i : Nat} (h : RelE K L M H σ env) : RelE K L M H (σ.set i none) (env.set i none) := by
  refine ⟨by simp [h.1], fun j e q => ?_⟩
  by_cases hj : i = j
  · subst hj
    by_cases hl : i < env.length
    · rw [List.getElem?_set_self hl] at q
      cases q
    · rw [List.getElem?_eq_none (by simpa using hl)] at q
      cases q
  · rw [List.getElem?_set_ne hj] at q ⊢
    exact h.2 j e q
theorem RelE.wipe (h : RelE K L M H σ env) : ∀ vs : List Nat, RelE K L M H (wipe σ vs) (wipeE env vs)
  | [] => h
  | v :: vs => (RelE.wipe h vs).unset
end
end Cl

/-! Cl, part C: the readings of clean programs, and the rules of the expressions. -/
namespace Cl
open PySem L2

theorem PE_mono {X : Cx} {e : Expr} {t t' : TE} (h : PE X e t) (m : ∀ σ H Q, t' σ H Q → t σ H Q) : PE X e t' := ⟨fun pins s σ H Q I q => h.run pins s σ H Q I (m σ H Q q)⟩
theorem PT_mono {X : Cx} {e : Expr} {t t' : TT} (h : PT X e t) (m : ∀ σ H Q, t' σ H Q → t σ H Q) : PT X e t' := ⟨fun pins s σ H Q I q => h.run pins s σ H Q I (m σ H Q q)⟩
theorem PW_mono {X : Cx} {e : Expr} {t t' : TT} (h : PW X e t) (m : ∀ σ H Q, t' σ H Q → t σ H Q) : PW X e t' := ⟨fun w pins s σ H Q I q => h.run w pins s σ H Q I (m σ H Q q)⟩
theorem PA_mono {X : Cx} {e : List Expr} {t t' : TA} (h : PA X e t) (m : ∀ σ H Q, t' σ H Q → t σ H Q) : PA X e t' := ⟨fun p pins s σ H Q I q => h.run p pins s σ H Q I (m σ H Q q)⟩
theorem PO_mono {X : Cx} {e : Option Expr} {t t' : TO} (h : PO X e t) (m : ∀ σ H Q, t' σ H Q → t σ H Q) : PO X e t' := ⟨fun pins s σ H Q I q => h.run pins s σ H Q I (m σ H Q q)⟩

/-! ### what is wanted -/
def fldOf (c : Str) : Str := if c = "NoPlace" then "place" else "line"
/-- the program's own error classes -/
def ecs : List Str := ["NoPlace", "BadLine", "CanNot", "TooMuch", "Unfit"]
/-- none of them is another's -/
def Apart (K : PySem.W.Frag) (mg : Str → Option Value) (c : Str) (C : Addr) : Prop := ∀ c2 ∈ ecs, ∀ C2, mg c2 = some (.ref C2) → PySem.W.exmOne K (.ref C) (.ref C2) = some (decide (c = c2))
def XVal (K : PySem.W.Frag) (mg : Str → Option Value) (L M : List Addr) (H : Hp) (cls : Value) (dd : Option Addr) (x : XD) : Prop :=
  ∃ C : Addr, mg x.cls = some (.ref C) ∧ cls = .ref C ∧ Apart K mg x.cls C ∧ ∀ v, x.arg = some v → ∃ (d : Addr) (w : V), dd = some d ∧ H d = some (.xd [(fldOf x.cls, w)]) ∧ d ∉ M ∧ d ∉ L ∧ Val K L M H w v
section
variable (K : PySem.W.Frag) (mg : Str → Option Value) (L : List Addr) (W : WX) (σ : St)
def PX (M : List Addr) (H : Hp) (st : Store) (x : XD) : Prop :=
  ∀ M' H' cls dd, Ext M H M' H' → Rel K L M' st H' → XVal K mg L M' H' cls dd x → W cls dd σ H'
/-- a step ends, and what it ends in is good -/
def Run {α : Type} (Ok : List Addr → Hp → Store → α → Prop) (M : List Addr) (H : Hp) (m : Cl.M α) (st : Store) : Prop :=
  ∃ r st', m st = some (r, st') ∧ match r with
    | .ok a => Ok M H st' a
    | .ex x => PX K mg L W σ M H st' x
def Mono {α : Type} (Ok : List Addr → Hp → Store → α → Prop) : Prop := ∀ M H M' H' st a, Ext M H M' H' → Ok M H st a → Ok M' H' st a
def OkE (Q : VK) (M : List Addr) (H : Hp) (st : Store) : E → Prop
  | .v d => ∀ M' H' v, Ext M H M' H' → Rel K L M' st H' → Val K L M' H' v d → Q v H'
  | .f ds => ∀ M' H' p vs, Ext M H M' H' → Rel K L M' st H' → Vls K L M' H' vs ds → H' p = none → Q (.ref p) (upd H' p (.lst vs))
def OkB (Q : Bool → Hp → Prop) (M : List Addr) (H : Hp) (st : Store) (b : Bool) : Prop := ∀ M' H', Ext M H M' H' → Rel K L M' st H' → Q b H'
def OkA (Q : List V → Hp → Prop) (M : List Addr) (H : Hp) (st : Store) (ds : List D) : Prop := ∀ M' H' vs, Ext M H M' H' → Rel K L M' st H' → Vls K L M' H' vs ds → Q vs H'
def OkO (Q : Option Int → Hp → Prop) (M : List Addr) (H : Hp) (st : Store) (o : Option Int) : Prop := ∀ M' H', Ext M H M' H' → Rel K L M' st H' → Q o H'
def OkD (Q : VK) (M : List Addr) (H : Hp) (st : Store) (d : D) : Prop := ∀ M' H' v, Ext M H M' H' → Rel K L M' st H' → Val K L M' H' v d → Q v H'
def OkN (Q : St → Hp → Prop) (M : List Addr) (H : Hp) (st : Store) (env : Env) : Prop := ∀ M' H' σ', Ext M H M' H' → Rel K L M' st H' → RelE K L M' H' σ' env → Q σ' H'
end
section
variable {K : PySem.W.Frag} {mg : Str → Option Value} {L : List Addr} {W : WX} {σ : St} {M M1 : List Addr} {H H1 : Hp} {st : Store} {α β : Type}
theorem PX.mono {x : XD} (e : Ext M H M1 H1) (h : PX K mg L W σ M H st x) : PX K mg L W σ M1 H1 st x := fun M' H' c d e' r q => h M' H' c d (e.trans e') r q
theorem OkE.mono {Q : VK} : Mono (OkE K L Q) := fun M H M' H' st a e h => by
  cases a with
  | v d => exact fun M2 H2 v e2 r q => h M2 H2 v (e.trans e2) r q
  | f ds => exact fun M2 H2 p vs e2 r q n => h M2 H2 p vs (e.trans e2) r q n
theorem OkB.mono {Q : Bool → Hp → Prop} : Mono (OkB K L Q) := fun M H M' H' st a e h M2 H2 e2 r => h M2 H2 (e.trans e2) r
theorem OkA.mono {Q : List V → Hp → Prop} : Mono (OkA K L Q) := fun M H M' H' st a e h M2 H2 vs e2 r q => h M2 H2 vs (e.trans e2) r q
theorem OkO.mono {Q : Option Int → Hp → Prop} : Mono (OkO K L Q) := fun M H M' H' st a e h M2 H2 e2 r => h M2 H2 (e.trans e2) r
theorem OkD.mono {Q : VK} : Mono (OkD K L Q) := fun M H M' H' st a e h M2 H2 v e2 r q => h M2 H2 v (e.trans e2) r q
theorem OkN.mono {Q : St → Hp → Prop} : Mono (OkN K L Q) := fun M H M' H' st a e h M2 H2 v e2 r q => h M2 H2 v (e.trans e2) r q
/-- a new list as a value -/
theorem OkE.of {Q : VK} {e : E} (h : ∀ M1 H1 v, Ext M H M1 H1 → Rel K L M1 st H1 → Val K L M1 H1 v e.val → Q v H1) : OkE K L Q M H st e := by
  cases e with
  | v d => exact fun M2 H2 v e2 r q => h M2 H2 v e2 r q
  | f ds => exact fun M2 H2 p vs e2 r q n => h M2 _ _ (e2.trans (.new n (r.fresh n))) (r.new n) (r.newLst n q)
theorem Run.mono {Ok Ok' : List Addr → Hp → Store → α → Prop} {m : Cl.M α} (h : Run K mg L W σ Ok M H m st) (k : ∀ st' a, Ok M H st' a → Ok' M H st' a) : Run K mg L W σ Ok' M H m st := by
  obtain ⟨r, st', e, q⟩ := h
  refine ⟨r, st', e, ?_⟩
  cases r with
  | ok a => exact k _ _ q
  | ex x => exact q
theorem Run.bnd {Ok : List Addr → Hp → Store → β → Prop} (mo : Mono Ok) {m : Cl.M α} {g : α → Cl.M β} (h : Run K mg L W σ Ok M H (Cl.bnd m g) st) :
    Run K mg L W σ (fun M' H' st1 a => ∀ M1 H1, Ext M' H' M1 H1 → Run K mg L W σ Ok M1 H1 (g a) st1) M H m st := by
  obtain ⟨r, st', e, q⟩ := h
  unfold Cl.bnd at e
  cases hm : m st with
  | none => rw [hm] at e; cases e
  | some p =>
    obtain ⟨r1, st1⟩ := p
    rw [hm] at e
    cases r1 with
    | ok a =>
      refine ⟨.ok a, st1, hm, fun M1 H1 ex => ⟨r, st', e, ?_⟩⟩
      cases r with
      | ok b => exact mo _ _ _ _ _ _ ex q
      | ex x => exact PX.mono ex q
    | ex x =>
      cases e
      exact ⟨.ex x, st', hm, q⟩
theorem Run.lft {Ok : List Addr → Hp → Store → α → Prop} {o : Option α} (h : Run K mg L W σ Ok M H (Cl.lft o) st) : ∃ a, o = some a ∧ Ok M H st a := by
  obtain ⟨r, st', e, q⟩ := h
  cases o with
  | none => cases e
  | some a => cases e; exact ⟨a, rfl, q⟩
theorem Run.ret {Ok : List Addr → Hp → Store → α → Prop} {a : α} (h : Run K mg L W σ Ok M H (Cl.ret a) st) : Ok M H st a := by
  obtain ⟨r, st', e, q⟩ := h
  cases e; exact q
theorem Run.eq {Ok : List Addr → Hp → Store → α → Prop} {m m' : Cl.M α} (h : Run K mg L W σ Ok M H m st) (e : m st = m' st) : Run K mg L W σ Ok M H m' st := by
  obtain ⟨r, st', e', q⟩ := h
  exact ⟨r, st', e ▸ e', q⟩
end
section
variable (K : PySem.W.Frag) (mg : Str → Option Value) (W : WX)
def LX (f : Env → Cl.M E) : TE := fun σ H Q => ∃ L M st env, RelE K L M H σ env ∧ Rel K L M st H ∧ Run K mg L W σ (OkE K L Q) M H (f env) st
def LT (f : Env → Cl.M Bool) : TT := fun σ H Q => ∃ L M st env, RelE K L M H σ env ∧ Rel K L M st H ∧ Run K mg L W σ (OkB K L Q) M H (f env) st
def LA (f : Env → Cl.M (List D)) : TA := fun σ H Q => ∃ L M st env, RelE K L M H σ env ∧ Rel K L M st H ∧ Run K mg L W σ (OkA K L Q) M H (f env) st
def LO (f : Env → Cl.M (Option Int)) : TO := fun σ H Q => ∃ L M st env, RelE K L M H σ env ∧ Rel K L M st H ∧ Run K mg L W σ (OkO K L Q) M H (f env) st
def LG (f : D → Env → Cl.M Env) : TG := fun v σ H Q => ∃ L M st env d, RelE K L M H σ env ∧ Rel K L M st H ∧ Val K L M H v d ∧ Run K mg L W σ (OkN K L Q) M H (f d env) st
def LGs (f : List D → Env → Cl.M Env) : TGs := fun vs σ H Q => ∃ L M st env ds, RelE K L M H σ env ∧ Rel K L M st H ∧ Vls K L M H vs ds ∧ Run K mg L W σ (OkN K L Q) M H (f ds env) st
end
abbrev SX (cf : CF) (X : Cx) (W : WX) (c : CE) (e : Expr) : Prop := PE X e (LX X.K X.mg W (evX cf c))
abbrev ST (cf : CF) (X : Cx) (W : WX) (c : CE) (e : Expr) : Prop := PT X e (LT X.K X.mg W (evT cf c))
abbrev SA (cf : CF) (X : Cx) (W : WX) (c : CA) (e : List Expr) : Prop := PA X e (LA X.K X.mg W (evA cf c))
abbrev SO (cf : CF) (X : Cx) (W : WX) (c : CO) (e : Option Expr) : Prop := PO X e (LO X.K X.mg W (evO cf c))

/-! ### names, constants -/
section
variable {cf : CF} {X : Cx} {W : WX} {a b c : CE} {ea eb ec : Expr} {pos : Pos}
theorem sx_var {i : Nat} {x : Str} (hN : X.N[i]? = some x) (hv : Vis X.env.scope x) (h1 : (x == ("__debug__" : Str)) = false) (h2 : (x == ("__classdict__" : Str)) = false) : SX cf X W (.var i) (.Name x pos) := by
  refine PE_mono (pe_var hN hv h1 h2) fun σ H Q h => ?_
  obtain ⟨L, M, st, env, hE, hR, h⟩ := h
  obtain ⟨e, he, ho⟩ := Run.lft h
  split at he
  · rename_i d hd
    cases he
    obtain ⟨v, hv, r⟩ := hE.2 i d hd
    exact ⟨v, hv, ho M H v (.refl _ _) hR r⟩
  · cases he
theorem sx_int {i : Int} {k : Nat} : SX cf X W (.int i) (.Constant (.int i) k pos) := PE_mono pe_int fun σ H Q ⟨L, M, st, env, hE, hR, h⟩ => Run.ret h M H _ (.refl _ _) hR (.int i)
theorem sx_bl {i : Bool} {k : Nat} : SX cf X W (.bl i) (.Constant (.bool i) k pos) := PE_mono pe_bl fun σ H Q ⟨L, M, st, env, hE, hR, h⟩ => Run.ret h M H _ (.refl _ _) hR (.bl i)
theorem sx_non {k : Nat} : SX cf X W .non (.Constant .none k pos) := PE_mono pe_non fun σ H Q ⟨L, M, st, env, hE, hR, h⟩ => Run.ret h M H _ (.refl _ _) hR .non
theorem sx_str {i : Str} {k : Nat} : SX cf X W (.str i) (.Constant (.str i) k pos) := PE_mono pe_str fun σ H Q ⟨L, M, st, env, hE, hR, h⟩ => Run.ret h M H _ (.refl _ _) hR (.str i)

/-! ### what values and lists are to the layer -/
section
variable {K : PySem.W.Frag} {L M : List Addr} {H : Hp} {st : Store} {v : V} {d : D} {xs : List D}
theorem rdL_sq (r : Rel K L M st H) (q : Val K L M H v d) (e : rdL st d = some xs) : ∃ a vs, v = .ref a ∧ SqL K H a vs ∧ Vls K L M H vs xs := by
  cases q <;> simp only [rdL] at e <;> try (cases e)
  · rename_i h hs; exact ⟨_, _, rfl, h.sq, hs⟩
  · rename_i h hs; exact ⟨_, _, rfl, h.sq, hs⟩
  · rename_i a n h
    split at e
    · rename_i ys hy
      cases e
      obtain ⟨vs, h1, h2⟩ := r.obj _ _ _ h hy
      exact ⟨_, vs, rfl, .of h1, h2⟩
    · cases e
theorem rdT_at (r : Rel K L M st H) (q : Val K L M H v d) (e : rdT st d = some xs) : ∃ a vs, v = .ref a ∧ H a = some (.lst vs) ∧ Vls K L M H vs xs := by
  cases q <;> simp only [rdT] at e <;> try (cases e)
  · rename_i h hs; exact ⟨_, _, rfl, h.1, hs⟩
  · rename_i a n h
    split at e
    · rename_i ys hy
      cases e
      obtain ⟨vs, h1, h2⟩ := r.obj _ _ _ h hy
      exact ⟨_, vs, rfl, h1, h2⟩
    · cases e
theorem rdT_rdL (e : rdT st d = some xs) : rdL st d = some xs := by
  cases d <;> simp only [rdT, rdL] at e ⊢ <;> first | exact e | cases e
theorem rdS_sq (r : Rel K L M st H) (q : Val K L M H v d) (e : rdS st d = some xs) : ∃ a vs, v = .ref a ∧ (SqL K H a vs ∨ SqT K H a vs) ∧ Vls K L M H vs xs := by
  by_cases ht : ∃ ys, d = .tup ys
  · obtain ⟨ys, rfl⟩ := ht
    simp only [rdS] at e
    cases e
    cases q with
    | tup h hs => exact ⟨_, _, rfl, .inr h.sq, hs⟩
  · have e' : rdL st d = some xs := by
      cases d <;> simp only [rdS] at e <;> first | exact e | exact absurd ⟨_, rfl⟩ ht
    obtain ⟨a, vs, h1, h2, h3⟩ := rdL_sq r q e'
    exact ⟨a, vs, h1, .inl h2, h3⟩
mutual
theorem den_dp (f : Nat → Option PyData) (hf : ∀ n p a, f n = some p → M[n]? = some a → Dp K H (.ref a) p) : ∀ (d : D) (v : V) (p : PyData), den f d = some p → Val K L M H v d → Dp K H v p
  | .non, _, _, e, q => by cases q; cases e; exact .non
  | .bl b, _, _, e, q => by cases q; cases e; exact .bl b
  | .int i, _, _, e, q => by cases q; cases e; exact .int i
  | .str s, _, _, e, q => by cases q; cases e; exact .str s
  | .tup ds, _, _, e, q => by
    cases q with
    | tup h hs =>
      simp only [den] at e
      split at e
      · rename_i ps hp
        cases e
        exact .tup h.sq (denL_dp f hf ds _ ps hp hs)
      · cases e
  | .lst ds, _, _, e, q => by
    cases q with
    | lst h hs =>
      simp only [den] at e
      split at e
      · rename_i ps hp
        cases e
        exact .lst h.sq (denL_dp f hf ds _ ps hp hs)
      · cases e
  | .rol ds, _, _, e, q => by
    cases q with
    | rol h hs =>
      simp only [den] at e
      split at e
      · rename_i ps hp
        cases e
        exact .lst h.sq (denL_dp f hf ds _ ps hp hs)
      · cases e
  | .loc n, _, _, e, q => by
    cases q with
    | loc h => exact hf n _ _ e h
theorem denL_dp (f : Nat → Option PyData) (hf : ∀ n p a, f n = some p → M[n]? = some a → Dp K H (.ref a) p) : ∀ (ds : List D) (vs : List V) (ps : List PyData), denL f ds = some ps → Vls K L M H vs ds → DpAll K H vs ps
  | [], _, _, e, q => by cases q; cases e; exact .nil
  | d :: ds, _, _, e, q => by
    cases q with
    | cons h hs =>
      simp only [denL] at e
      split at e
      · rename_i p ps h1 h2
        cases e
        exact .cons (den_dp f hf d _ p h1 h) (denL_dp f hf ds _ ps h2 hs)
      · cases e
end
theorem denAt_dp (r : Rel K L M st H) : ∀ (k n : Nat) (p : PyData) (a : Addr), denAt k st n = some p → M[n]? = some a → Dp K H (.ref a) p
  | 0, _, _, _, e, _ => by cases e
  | k + 1, n, p, a, e, h => by
    simp only [denAt] at e
    split at e
    · rename_i ds hd
      split at e
      · rename_i ps hp
        cases e
        obtain ⟨vs, h1, h2⟩ := r.obj _ _ _ h hd
        exact .lst (.of h1) (denL_dp _ (fun n p a e h => denAt_dp r k n p a e h) ds vs ps hp h2)
      · cases e
    · cases e
theorem toP_dp (r : Rel K L M st H) {p : PyData} (e : toP st d = some p) (q : Val K L M H v d) : Dp K H v p := den_dp _ (fun n p a e h => denAt_dp r 8 n p a e h) d v p e q
theorem truD_tru (r : Rel K L M st H) (q : Val K L M H v d) {k : Bool} (e : truD st d = some k) : TruV K v H k := by
  by_cases hs : ∃ xs, rdL st d = some xs
  · obtain ⟨xs, hx⟩ := hs
    obtain ⟨a, vs, rfl, h1, h2⟩ := rdL_sq r q hx
    have ek : k = !xs.isEmpty := by
      cases d <;> simp only [rdL] at hx <;> try (cases hx)
      · simp only [truD, rdL] at e; cases e; rfl
      · simp only [truD, rdL] at e; cases e; rfl
      · simp only [truD, rdL] at e
        rw [hx] at e; cases e; rfl
    refine .inl ⟨vs, h1, ?_⟩
    rw [ek]
    have := h2.length
    cases xs <;> cases vs <;> simp_all
  · cases q with
    | non => simp only [truD] at e; cases e; rfl
    | bl b => simp only [truD] at e; cases e; rfl
    | int i => simp only [truD] at e; cases e; rfl
    | str s =>
      simp only [truD] at e
      split at e
      · rename_i hl
        cases e
        have hl : s.length ≤ 100000 := of_decide_eq_true hl
        exact ⟨Nat.le_trans hl (by decide), rfl⟩
      · cases e
    | @tup a vs ds h hv =>
      simp only [truD] at e
      cases e
      refine .inr (.inl ⟨vs, h.sq, ?_⟩)
      have := hv.length
      cases ds <;> cases vs <;> simp_all
    | lst h hs => exact absurd ⟨_, rfl⟩ hs
    | rol h hs => exact absurd ⟨_, rfl⟩ hs
    | loc h =>
      rename_i a n
      simp only [truD] at e
      split at e
      · rename_i xs hx; exact absurd ⟨_, hx⟩ hs
      · cases e
end
end
end Cl

set_option maxHeartbeats 2000000
/-! Cl, part D0: what the kit has no rule for: sorted(a tuple), a tuple times 0 and 1, a tuple backwards, {a tuple: x}. -/
namespace PySem.W.ClK
open PySem PySem.Spec PyProof.Rows HT SrtO L2
section
variable {prog : Program} {w : World} {A : Around} {E : Value → Shared → Prop} {s : Shared}
theorem collect_tuple {l : Addr} {vs : List Value} {Q : List Value → Shared → Prop} (hl : IsTup s.heap l vs.toArray)
    (h : Q vs { s with heap := (s.heap.push (seqObj "list" #[] 0)).update s.heap.objs.size (Obj.mapSeq (· ++ vs.toArray)) }) (hsz : vs.length ≤ sizeLine) :
    wpAny (model prog w) A (collect (.ref l)) Q E s := by
  obtain ⟨o, ho, hc, n, hd⟩ := id hl
  unfold collect
  refine wpAny_bind (wpAny_runValue (codeAny_builtin entry_proto_collect' ?_))
  show wpAny _ _ (do again (.builtin "list.__iadd__" ⟨[← newList [], .ref l], []⟩)) _ _ s
  refine wpAny_bind (wpAny_newList (wpAny_pure ⟨Code.quiet_builtin _ (by decide +kernel), codeAny_builtin entry_list_iadd' ?_⟩))
  show wpAny _ _ (Builtin.List.listExtendWith (.ref s.heap.objs.size) (.ref l) (.ref s.heap.objs.size)) _ _ { s with heap := s.heap.push (seqObj "list" #[] 0) }
  unfold Builtin.List.listExtendWith
  have ho' : (s.heap.push (seqObj "list" #[] 0)).get? l = some o := Heap.get?_push_of_some _ ho
  refine wpAny_bind (wpAny_typeOf (T := "tuple") ⟨o, ho', hc⟩ ?_)
  have ht : (Value.type "tuple" == Value.type "tuple") = true := by rfl
  rw [if_pos (by rw [ht]; simp)]
  refine wpAny_bind (listItems_at ho' hd ?_)
  refine wpAny_bind (listItems_at (xs := #[]) (n := 0) (Heap.get?_push_size _ rfl) rfl ?_)
  rw [if_neg (by simp)]
  refine wpAny_bind (listUpdate_at (xs := #[]) (n := 0) (Heap.get?_push_size _ rfl) rfl ?_ (Nat.zero_le _) (by show (#[] ++ vs.toArray).size ≤ sizeLine + 1; simp only [Array.size_append, List.size_toArray, List.length_nil]; omega))
  refine wpAny_pure ?_
  show wpAny (model prog w) A (do
      let o ← load s.heap.objs.size
      match o.data with
      | .seq xs _ => pure xs.toList
      | _ => unsupported "internal:collect") Q E { s with heap := (s.heap.push (seqObj "list" #[] 0)).update s.heap.objs.size (Obj.mapSeq (· ++ vs.toArray)) }
  refine wpAny_bind (wpAny_load (get?_update_seq (Heap.get?_push_size _ rfl) _) ?_)
  show wpAny _ _ (pure ((#[] : Array Value) ++ vs.toArray).toList) Q E _
  rw [show ((#[] : Array Value) ++ vs.toArray).toList = vs by simp]
  exact wpAny_pure h
theorem sorted_ordT {l : Addr} {vs : List Value} {ltv : Value → Value → Bool} {Q : Value → Shared → Prop} (O : Swo ltv) (hl : IsTup s.heap l vs.toArray) (hz : vs.length ≤ sizeLine)
    (hS : 2 ≤ vs.length → ∀ (h₁ : Heap) (a : Addr), h₁.get? a = some (seqObj "list" vs.toArray 0) → (∀ b o, s.heap.get? b = some o → b ≠ a ∧ h₁.get? b = some o) → SortableO prog w A.in1.in1 { s with heap := h₁ } a vs ltv)
    (h : ∀ out : List Value, Srtd ltv out → Stb ltv out vs → Q (.ref (s.heap.objs.size + 1)) { s with heap := sortedAll s.heap vs out.toArray }) :
    wpAny (model prog w) A (call (.builtin "sorted") [.ref l]) Q E s := by
  refine Calls.call_function_entry kind_sorted plain_sorted entry_sorted (args_sorted1 _) ?_
  unfold Builtin.«sorted»
  refine wpAny_bind (m := checkCount "sorted" 1 1 _) (wpAny_pure ?_)
  refine wpAny_bind (collect_tuple hl ?_ hz)
  refine wpAny_bind (wpAny_newList ?_ hz)
  have hsz : ((s.heap.push (seqObj "list" #[] 0)).update s.heap.objs.size (Obj.mapSeq (· ++ vs.toArray))).objs.size = s.heap.objs.size + 1 := by
    rw [Heap.size_update, size_push']
  have hoL : (((s.heap.push (seqObj "list" #[] 0)).update s.heap.objs.size (Obj.mapSeq (· ++ vs.toArray))).push (seqObj "list" vs.toArray 0)).get? (s.heap.objs.size + 1) = some (seqObj "list" vs.toArray 0) := by
    rw [← hsz]; exact Heap.get?_push_size _ rfl
  have keep : ∀ b o, s.heap.get? b = some o → b ≠ s.heap.objs.size + 1 ∧ (((s.heap.push (seqObj "list" #[] 0)).update s.heap.objs.size (Obj.mapSeq (· ++ vs.toArray))).push (seqObj "list" vs.toArray 0)).get? b = some o := fun b o q => by
    have hlt : b < s.heap.objs.size := Heap.lt_size q
    refine ⟨Nat.ne_of_lt (Nat.lt_succ_of_lt hlt), Heap.get?_push_of_some _ ?_⟩
    rw [Heap.get?_update_ne _ _ _ _ (Nat.ne_of_lt hlt)]
    exact Heap.get?_push_of_some _ q
  show wpAny _ _ _ _ _ { s with heap := ((s.heap.push (seqObj "list" #[] 0)).update s.heap.objs.size (Obj.mapSeq (· ++ vs.toArray))).push (seqObj "list" vs.toArray 0) }
  rw [hsz]
  refine wpAny_bind (wpAny_holding (wpAny_call_entry slot_list_sort ⟨_, hoL, rfl⟩ entry_list_sort (list_sort_ord O hoL hz (fun h2 => hS h2 _ _ hoL keep) fun out hs hb => ⟨_, rfl, ?_⟩) (args_list_sort _)))
  exact wpAny_pure ⟨_, rfl, h out hs hb⟩
end
end PySem.W.ClK
namespace L2
open PySem PySem.Spec PyProof.Rows
def rSortedIT (K : PySem.W.Frag) : List V → Hp → VK → Prop := fun vs H Q => ∃ (a : Addr) (ns : List Int), vs = [V.ref a] ∧ SqT K H a (ns.map V.int) ∧
  ∀ (ns' : List Int) (p : Addr), ns'.Perm ns → ns'.Pairwise (· ≤ ·) → H p = none → Q (.ref p) (upd H p (.lst (ns'.map V.int)))
section
variable {X : Cx}
theorem cr_sortedIT : CallR X (.builtin "sorted") (rSortedIT X.K) := by
  intro pins s σ H vs us Q I r h
  obtain ⟨a, ns, rfl, hs, q⟩ := h
  obtain ⟨its, rv, hl, hz⟩ := I.tuple hs
  rw [Vals.ref1 r]
  have hi := rv.ints
  refine PySem.W.ClK.sorted_ordT SrtO.swo_int hl (by rw [← rv.length]; exact hz) (fun h2 h₁ a' _ _ => SrtO.ints_sortable hi h2) fun out h1 h2 => ?_
  obtain ⟨k1, k2, k3⟩ := SrtO.ints_out hi h1 h2
  obtain ⟨ep, he'⟩ := PyProof.Rows.sortedAll_at s.heap its out.toArray
  have hlen : ((out.map SrtO.iv).map V.int).length ≤ sizeLine := by
    rw [List.length_map, k2.length_eq]
    rw [List.length_map] at hz
    exact hz
  exact ⟨.ref _, upd H (s.heap.objs.size + 1) (.lst ((out.map SrtO.iv).map V.int)), I.laid (t' := s.toks) (fun _ _ => PyProof.Rows.sortedAll_old) (Nat.le_succ _) ⟨hlen, out, ep, vals_of_ints k1, he'⟩, rfl, q _ _ k2 k3 (I.hok.fresh (Nat.le_succ _))⟩
/-! a tuple times an int -/
theorem tuple_mulC1 (l : Addr) (items : Array Value) (n : Nat) (dd : Option Addr) (sl : Array (Option Value)) (u : Tok) :
    Meets (Builtin.«tuple.__mul__» ⟨[.ref l, .int 1 u], []⟩) (fun _ R s => s.heap.get? l = some { cls := .type "tuple", dict := dd, data := .seq items n, slots := sl } ∧ R (.ok (.ret (.ref l))) s) :=
  .of_wp fun prog w A R s h => by
    obtain ⟨hp, g, d, tk, os⟩ := s
    obtain ⟨hl, h⟩ := h
    have f1 := AutoSeq1.idx_int
    wp_walk using wpAny_loadPart' hl
    repeat (first
      | (refine wpAny_ite_false (by decide) ?_; wp_walk using wpAny_loadPart' hl)
      | (refine wpAny_ite_true (by simp) ?_; wp_walk using wpAny_loadPart' hl))
    exact ⟨_, rfl, h⟩
theorem tuple_mulC0 (l : Addr) (items : Array Value) (n : Nat) (dd : Option Addr) (sl : Array (Option Value)) (u : Tok) (c1 : (items.isEmpty || (0 : Int) == 1) = false) :
    Meets (Builtin.«tuple.__mul__» ⟨[.ref l, .int 0 u], []⟩) (fun _ R s => s.heap.get? l = some { cls := .type "tuple", dict := dd, data := .seq items n, slots := sl } ∧
      R (.ok (.ret (Value.ref s.heap.objs.size))) { s with heap := s.heap.push { cls := Value.type "tuple", data := Data.seq #[] }, toks := s.toks }) :=
  .of_wp fun prog w A R s h => by
    obtain ⟨hp, g, d, tk, os⟩ := s
    obtain ⟨hl, h⟩ := h
    have f1 := AutoSeq1.idx_int
    wp_walk using wpAny_loadPart' hl
    repeat (first
      | (refine wpAny_ite_false (by decide) ?_; wp_walk using wpAny_loadPart' hl)
      | (refine wpAny_ite_false (decide_eq_false (by rw [c1]; exact Bool.false_ne_true)) ?_; wp_walk using wpAny_loadPart' hl)
      | (refine wpAny_ite_true (by simp) ?_; wp_walk using wpAny_loadPart' hl))
    exact ⟨_, rfl, h⟩
def rRepT2 (K : PySem.W.Frag) : R2 := fun x y H Q => ∃ l k xs, x = .ref l ∧ y = .int k ∧ SqT K H l xs ∧ xs ≠ [] ∧ 0 ≤ k ∧ k ≤ 1000 ∧ xs.length ≤ 1000 ∧ (k = 1 → Q (.ref l) H) ∧ (k ≠ 1 → ∀ p, H p = none → Q (.ref p) (upd H p (.tup (List.replicate k.toNat xs).flatten)))
theorem op_repT2 : OpR X (binaryOp .Mult) (rRepT2 X.K) := by
  intro pins s σ H x y v u Q I rx ry h
  obtain ⟨l, k, xs, rfl, rfl, hT, hne, h1, h2, hz, q1, q⟩ := h
  by_cases hk : 2 ≤ k
  · exact op_repT pins s σ H _ _ v u Q I rx ry ⟨l, k, xs, rfl, rfl, hT, hne, hk, h2, hz, q (by omega)⟩
  · cases rx
    obtain ⟨t, rfl⟩ := ry
    obtain ⟨its, r, ⟨⟨cls, dd, data, sl⟩, ho, hc, n, hd⟩, hs⟩ := I.tuple hT
    simp only at hc hd
    subst hc hd
    have hle : its.length = xs.length := r.length.symm
    have hn : its ≠ [] := fun e => hne (by
      rw [e] at hle
      exact List.eq_nil_of_length_eq_zero hle.symm)
    have hi : its.toArray.isEmpty = false := by
      cases its with
      | nil => exact absurd rfl hn
      | cons a b => rfl
    by_cases h0 : k = 1
    · subst h0
      exact wpAny_binaryOp_repeat_ref (T := "tuple") (U := "int") (by decide) ⟨_, ho, rfl⟩ (fun s' => typeIs_int s' 1 t) noFill_tuple_mul F.fills_int_mul F.slot_int_rmul repeat_tuple F.slot_int_index.lookup
        (call_meets F.slot_int_rmul (typeIs_int s 1 t) F.entry_int_rmul (F.args_int_rmul_2 _ _) (int_rmul_tuple 1 t l its.toArray n dd sl)
          ⟨ho, rfl, ⟨_, ho, rfl⟩, call_meets F.slot_tuple_mul ⟨_, ho, rfl⟩ F.entry_tuple_mul (F.args_tuple_mul_2 _ _) (tuple_mulC1 l its.toArray n dd sl t) ⟨ho, .ref l, H, I, rfl, q1 rfl⟩⟩)
    · have h00 : k = 0 := by omega
      subst h00
      refine wpAny_binaryOp_repeat_ref (T := "tuple") (U := "int") (by decide) ⟨_, ho, rfl⟩ (fun s' => typeIs_int s' 0 t) noFill_tuple_mul F.fills_int_mul F.slot_int_rmul repeat_tuple F.slot_int_index.lookup
        (call_meets F.slot_int_rmul (typeIs_int s 0 t) F.entry_int_rmul (F.args_int_rmul_2 _ _) (int_rmul_tuple 0 t l its.toArray n dd sl)
          ⟨ho, rfl, ⟨_, ho, rfl⟩, call_meets F.slot_tuple_mul ⟨_, ho, rfl⟩ F.entry_tuple_mul (F.args_tuple_mul_2 _ _) (tuple_mulC0 l its.toArray n dd sl t (by rw [hi]; rfl)) ⟨ho, ?_⟩⟩)
      have e0 : (List.replicate (0 : Int).toNat xs).flatten = [] := rfl
      have q := q (by decide)
      rw [e0] at q
      refine ⟨.ref s.heap.objs.size, _, I.laid (t' := s.toks) (o := .tup []) (fun b ob q => Heap.get?_push_of_some _ q) (Nat.le_refl _) ?_, rfl, q _ (I.hok.fresh (Nat.le_refl _))⟩
      exact ⟨Nat.zero_le _, [], .nil, IsTup.new _ _⟩
/-! a tuple backwards -/
theorem adj_rev (n : Nat) : Builtin.Slice.sliceAdjust none none (-1) (n : Int) = ((n : Int) - 1, -1) := by
  unfold Builtin.Slice.sliceAdjust
  simp
theorem places_rev (n : Nat) : Builtin.Slice.slicePlaces ((n : Int) - 1) (-1) (-1) = n := by
  unfold Builtin.Slice.slicePlaces
  rw [if_neg (by decide)]
  by_cases h : n = 0
  · subst h; decide
  · rw [if_pos (by omega)]
    have e : ((n : Int) - 1 - -1 - 1) / (- -1) + 1 = n := by
      have : (- -1 : Int) = 1 := rfl
      rw [this, Int.ediv_one]; omega
    rw [e]; omega
theorem pick_rev (xs : List Value) : (List.range xs.length).filterMap (fun (k : Nat) => xs.toArray[((xs.length : Int) - 1 + (k : Int) * (-1)).toNat]?) = xs.reverse := by
  have key : ∀ k, k < xs.length → xs.toArray[((xs.length : Int) - 1 + (k : Int) * (-1)).toNat]? = xs.reverse[k]? := fun k hk => by
    have e : ((xs.length : Int) - 1 + (k : Int) * (-1)).toNat = xs.length - 1 - k := by omega
    rw [e, List.getElem?_reverse hk]
    simp
  have h2 : ∀ n, n ≤ xs.length → (List.range n).filterMap (fun (k : Nat) => xs.toArray[((xs.length : Int) - 1 + (k : Int) * (-1)).toNat]?) = xs.reverse.take n := by
    intro n
    induction n with
    | zero => intro _; rfl
    | succ n ih =>
      intro hn
      rw [List.range_succ, List.filterMap_append, ih (by omega), List.take_succ]
      congr 1
      rw [← key n (by omega)]
      simp only [List.filterMap_cons, List.filterMap_nil]
      cases xs.toArray[((xs.length : Int) - 1 + (n : Int) * (-1)).toNat]? <;> rfl
  rw [h2 _ (Nat.le_refl _), List.take_of_length_le (by simp)]
section
open HT
variable {prog : Program} {w : World} {A : Around} {E : Value → Shared → Prop} {s : Shared}
theorem sliceApplied_rev {sl : Addr} {t : Tok} {n : Nat} {Q : Int × Int × Nat → Shared → Prop} (hs : s.heap.IsSliceOf sl .none .none (.int (-1) t))
    (h : Q ((n : Int) - 1, -1, n) s) : wpAny (model prog w) A (Builtin.Slice.sliceApplied (.ref sl) (pure (n : Int))) Q E s := by
  obtain ⟨os, hos, hcs, hds⟩ := id hs
  unfold Builtin.Slice.sliceApplied Builtin.Slice.sliceFields
  refine wpAny_bind (wpAny_bind (wpAny_field hos hds (x := .none) rfl (wpAny_bind (wpAny_field hos hds (x := .none) rfl (wpAny_bind (wpAny_field hos hds (x := .int (-1) t) rfl (wpAny_pure ?_)))))))
  refine wpAny_bind (slicePart_int ?_)
  show wpAny _ _ (if ((-1 : Int) == 0) = true then _ else _) _ _ s
  rw [if_neg (by decide)]
  refine wpAny_bind (slicePart_none (wpAny_bind (slicePart_none (wpAny_bind (wpAny_pure ?_)))))
  show wpAny _ _ (match Builtin.Slice.sliceAdjust none none (-1) (n : Int) with | (lo, hi) => pure (lo, (-1 : Int), Builtin.Slice.slicePlaces lo hi (-1))) _ _ s
  rw [adj_rev n]
  show wpAny _ _ (pure ((n : Int) - 1, (-1 : Int), Builtin.Slice.slicePlaces ((n : Int) - 1) (-1) (-1))) _ _ s
  rw [places_rev]
  exact wpAny_pure h
theorem getItem_tuple_rev {t sl : Addr} {its : List Value} {tk : Tok} {Q : Value → Shared → Prop} (ht : IsTup s.heap t its.toArray) (hs : s.heap.IsSliceOf sl .none .none (.int (-1) tk))
    (h : Q (.ref s.heap.objs.size) { s with heap := s.heap.push { cls := .type "tuple", data := .seq its.reverse.toArray } }) (hsz : its.length ≤ sizeLine) :
    wpAny (model prog w) A (getItem (.ref t) (.ref sl)) Q E s := by
  have htake : sizeOk (.seq its.reverse.toArray) := by
    show its.reverse.toArray.size ≤ sizeLine
    rw [List.size_toArray, List.length_reverse]
    exact hsz
  obtain ⟨os, hos, hcs, hds⟩ := id hs
  have hTs : s.TypeIs (.ref sl) "slice" := ⟨os, hos, hcs⟩
  unfold getItem
  try with_reducible refine wpAny_holding ?_
  first | refine wpAny_bind (wpAny_pure ?_) | skip
  refine wpAny_bind (wpAny_sequenceKey ht.typeIs (by decide) ?_)
  refine wpAny_bind (wpAny_callSpecial?_slot (name := Str.ofString "__getitem__") ht.typeIs PyProof.Rows.slot_tuple_getitem
    (wpAny_call_entry PyProof.Rows.slot_tuple_getitem ht.typeIs entry_tuple_getitem ?_ (args_tuple_getitem _ _)))
  show wpAny _ _ (Builtin.Tuple.tupleItemsOf (.ref t) >>= _) _ _ s
  refine wpAny_bind (tupleItemsOf_ ht ?_)
  refine wpAny_bind (wpAny_typeOf hTs ?_)
  rw [if_pos (by decide)]
  refine wpAny_bind (sliceApplied_rev hs ?_)
  show wpAny _ _ (if (((its.toArray.size : Int) - 1) == 0 && (-1 : Int) == 1 && its.toArray.size == its.toArray.size) = true then _ else _) _ _ s
  rw [if_neg (by simp)]
  have e : ((List.range its.toArray.size).filterMap fun (k : Nat) => its.toArray[((its.toArray.size : Int) - 1 + (k : Int) * (-1)).toNat]?).toArray = its.reverse.toArray := by
    rw [List.size_toArray, pick_rev]
  rw [e]
  first
    | exact wpAny_bind (m := Builtin.Tuple.tupleExact _) (wpAny_newObj_type (wpAny_pure ⟨_, rfl, wpAny_pure h⟩) htake)
    | exact wpAny_bind (m := Builtin.Tuple.tupleExact _) (wpAny_newObj_type (wpAny_bind (wpAny_pure (wpAny_pure ⟨_, rfl, wpAny_pure h⟩))) htake)
    | exact wpAny_bind (wpAny_bind (m := Builtin.Tuple.tupleExact _) (wpAny_newObj_type (wpAny_pure (wpAny_pure ⟨_, rfl, wpAny_pure h⟩)) htake))
    | exact wpAny_bind (wpAny_bind (m := Builtin.Tuple.tupleExact _) (wpAny_newObj_type (wpAny_pure ⟨_, rfl, wpAny_pure h⟩) htake))
end
/-- xs[::-1], of a list or a tuple -/
def tRevA (K : PySem.W.Frag) (te : TE) : TE := fun σ H Q => te σ H fun x H1 => ∃ a xs, x = .ref a ∧ ((SqL K H1 a xs ∧ ∀ p, H1 p = none → Q (.ref p) (upd H1 p (.lst xs.reverse))) ∨ (SqT K H1 a xs ∧ ∀ p, H1 p = none → Q (.ref p) (upd H1 p (.tup xs.reverse))))
theorem pe_revA {e : Expr} {te : TE} {k : Nat} {p1 p2 p3 pos : Pos} (he : PE X e te) : PE X (.Subscript e (.Slice none none (some (.UnaryOp .USub (.Constant (.int 1) k p1) p2)) p3) pos) (tRevA X.K te) := by
  refine ⟨fun pins s σ H Q I h => ?_⟩
  refine Subscript_ (thn (he.run pins s σ H _ I h) fun v s1 ⟨x, H1, I1, r1, q1⟩ => ?_)
  obtain ⟨a, xs, ex, q1⟩ := q1
  subst ex
  cases r1
  have hst : PO X (some (.UnaryOp .USub (.Constant (.int 1) k p1) p2)) (tPart (tUn (rU fun i => .int (-i)) (tC (.int 1)))) := po_some (pe_un un_neg pe_int)
  refine wpAny_Slice (thn (po_none.run pins s1 σ H1 (fun o H2 => o = none ∧ H2 = H1) I1 ⟨rfl, rfl⟩) fun vl s2 ⟨l, H2, I2, pl, el, e2⟩ => ?_)
  subst el e2
  refine thn (po_none.run pins s2 σ H2 (fun o H3 => o = none ∧ H3 = H2) I2 ⟨rfl, rfl⟩) fun vu s3 ⟨u, H3, I3, pu, eu, e3⟩ => ?_
  subst eu e3
  refine thn (hst.run pins s3 σ H3 (fun o H4 => o = some (-1) ∧ H4 = H3) I3 ⟨1, rfl, -1, rfl, rfl, rfl⟩) fun vs s4 ⟨o, H4, I4, ps, eo, e4⟩ => ?_
  subst eo e4
  have I5 : Inv X pins σ H4 { s4 with heap := s4.heap.push { cls := .type "slice", data := .fields #[vl, vu, vs] } } := I4.kept (t' := s4.toks) fun b ob q => Heap.get?_push_of_some _ q
  show wpAny (model X.prog X.w) X.A (subscriptTail e (.Slice none none (some (.UnaryOp .USub (.Constant (.int 1) k p1) p2)) p3) (.ref a) (.ref s4.heap.objs.size)) (EP X pins σ Q) X.xe { s4 with heap := s4.heap.push { cls := .type "slice", data := .fields #[vl, vu, vs] } }
  rcases q1 with ⟨hx, q⟩ | ⟨hx, q⟩
  · obtain ⟨its, r, ht, hz⟩ := I5.list hx
    have hlen := r.length
    refine tail_any (ops := [.ref a, .ref s4.heap.objs.size]) ht.isList.typeIs (PySem.slot_list_getitem.lookup) ?_ (by with_unfolding_all rfl)
    refine wpAny_getItem_list_slice ht.isList (Heap.IsSliceOf.new _ vl vu vs) pl pu ps (by decide) ?_ (by rw [List.size_toArray]; omega)
    rw [PySem.W.krv_pick]
    refine ⟨.ref _, _, I5.laid (t' := s4.toks) (o := .lst xs.reverse) (fun b ob q => Heap.get?_push_of_some _ q) (Nat.le_refl _) ?_, rfl, q _ (I5.hok.fresh (Nat.le_refl _))⟩
    exact ⟨by rw [List.length_reverse]; exact hz, _, 0, r.reverse, Heap.get?_push_size _ rfl⟩
  · obtain ⟨its, r, ht, hz⟩ := I5.tuple hx
    have hlen := r.length
    cases pl
    cases pu
    cases ps
    refine tail_any (ops := [.ref a, .ref s4.heap.objs.size]) ht.typeIs (PyProof.Rows.slot_tuple_getitem.lookup) ?_ (by with_unfolding_all rfl)
    refine getItem_tuple_rev ht (Heap.IsSliceOf.new _ _ _ _) ?_ (by omega)
    refine ⟨.ref _, _, I5.laid (t' := s4.toks) (o := .tup xs.reverse) (fun b ob q => Heap.get?_push_of_some _ q) (Nat.le_refl _) ?_, rfl, q _ (I5.hok.fresh (Nat.le_refl _))⟩
    exact ⟨by rw [List.length_reverse]; exact hz, _, r.reverse, IsTup.new _ _⟩
/-- {k: v}, k a tuple -/
def tDct1 (tk tv : TE) : TE := fun σ H Q => ∀ p, H p = none → tk σ (upd H p (.dT [])) fun x H1 => tv σ H1 fun y H2 => ∃ b ks, x = .ref b ∧ H2 b = some (.tup (ks.map kV)) ∧ H2 p = some (.dT []) ∧ Q (.ref p) (upd H2 p (.dT [(ks, y)]))
theorem pe_dct1 {k v : Expr} {tk tv : TE} {pos : Pos} (hu : X.A.units + 1 < cLine) (hk : PE X k tk) (hv : PE X v tv) : PE X (.Dict [some k] [v] pos) (tDct1 tk tv) := by
  refine ⟨fun pins s σ H Q I q => ?_⟩
  have hn := I.hok.fresh (Nat.le_refl s.heap.objs.size)
  have I1 := I.laid (a := s.heap.objs.size) (o := .dT []) (h' := s.heap.push { cls := .type "dict", data := .dict #[] }) (t' := s.toks) (fun _ _ q => Heap.get?_push_of_some _ q) (Nat.le_refl _) (dt_empty s.heap I.big)
  have hz := zip_pairTrees [some k] [v] X.env pos rfl rfl
  have hp : pairTrees [some k] [v] X.env pos ≠ [] := by
    intro e
    have := pairTrees_length [some k] [v] X.env pos rfl rfl
    rw [e] at this
    cases this
  have hl : (pairTrees [some k] [v] X.env pos).length = 1 := pairTrees_length [some k] [v] X.env pos rfl rfl
  rw [arm_eval_Dict, hz, dictDisplay_pairs (pairTrees [some k] [v] X.env pos) hp (by omega)]
  refine wpAny_bind (wpAny_standAt (wpAny_bind (wpAny_subDictH (knd := tupleKind (mixKind X.prog X.w)) (Q := fun d s' => wpAny (model X.prog X.w) X.A (pure (Value.ref d)) _ _ s') (Nat.lt_of_succ_lt hu) (by omega) ?_)))
  refine pairTrees_cons_walk (thn (hk.run pins _ σ _ _ I1 (q _ hn)) fun u s1 ⟨x, H1, I2, rx, q1⟩ => thn (hv.run pins s1 σ H1 _ I2 q1) fun w2 s2 ⟨y, H2, I3, ry, b, ks, ex, hb, hd, q2⟩ => pairTrees_nil_walk ?_)
  subst ex
  cases (show u = Value.ref b from rx)
  obtain ⟨z, hsy, xs, rel, dd⟩ := dt_of I3.hok hd
  cases rel
  refine ⟨[(ks, b, w2)], ⟨rfl, rfl, key_of I3.hok hb, trivial⟩, dd, fun h' tk dd' hs => wpAny_pure ⟨.ref s.heap.objs.size, _, ?_, rfl, q2⟩⟩
  obtain ⟨o, es, ep, hq, h2, h3, h4, _, h5⟩ := dd'
  refine d_write I3 (by rw [hd]; exact True.intro) hs ⟨o, hq⟩ ⟨by show 1 ≤ sizeLine; decide, hsy, [(ks, b, w2)], .cons ⟨rfl, ?_, ry⟩ .nil, o, es, ep, hq, h2, h3, h4, h5⟩
  rw [upd_ne (ne_of hb hd (fun z => nomatch z))]
  exact hb
end
end L2

/-! Cl, part D: the rules of the expressions, by values. -/
namespace Cl
open PySem L2
theorem len_of {n : Nat} (h : okLen n = true) : n ≤ sizeLine := Nat.le_trans (of_decide_eq_true h) (by decide)
theorem len_lt {n : Nat} (h : okLen n = true) : n < sizeLine := Nat.lt_of_le_of_lt (of_decide_eq_true h) (by decide)
theorem small_of {i : Int} (h : smallI i = true) : -(2 ^ 64) < i ∧ i < 2 ^ 64 := by
  simp only [smallI, Bool.and_eq_true, decide_eq_true_eq] at h
  exact h
section
variable {K : PySem.W.Frag} {L M : List Addr} {H : Hp} {st : Store} {v : V} {d : D} {xs : List D} {Q : VK}
theorem OkE.int {i : Int} (h : OkE K L Q M H st (.v (.int i))) (r : Rel K L M st H) : Q (.int i) H := h M H _ (.refl _ _) r (.int i)
theorem OkE.bl {i : Bool} (h : OkE K L Q M H st (.v (.bl i))) (r : Rel K L M st H) : Q (.bl i) H := h M H _ (.refl _ _) r (.bl i)
theorem OkE.str {i : Str} (h : OkE K L Q M H st (.v (.str i))) (r : Rel K L M st H) : Q (.str i) H := h M H _ (.refl _ _) r (.str i)
theorem OkE.val (h : OkE K L Q M H st (.v d)) (r : Rel K L M st H) (q : Val K L M H v d) : Q v H := h M H _ (.refl _ _) r q
theorem OkE.new {vs : List V} {p : Addr} (h : OkE K L Q M H st (.f xs)) (r : Rel K L M st H) (q : Vls K L M H vs xs) (n : H p = none) : Q (.ref p) (upd H p (.lst vs)) := h M H p vs (.refl _ _) r q n
theorem OkE.tup {vs : List V} {p : Addr} (h : OkE K L Q M H st (.v (.tup xs))) (r : Rel K L M st H) (q : Vls K L M H vs xs) (n : H p = none) : Q (.ref p) (upd H p (.tup vs)) := h M _ _ (.new n (r.fresh n)) (r.new n) (r.newTup n q)
end
section
variable {X : Cx} {cf : CF} {W : WX}
def rBin (K : PySem.W.Frag) (op : Operator) : R2 := fun x y H Q => ∃ L M st dx dy e, Rel K L M st H ∧ Val K L M H x dx ∧ Val K L M H y dy ∧ binD st op dx dy = some e ∧ OkE K L Q M H st e
theorem op_bin {op : Operator} : OpR X (binaryOp op) (rBin X.K op) := by
  intro pins s σ H x y v u Q I rx ry h
  obtain ⟨L, M, st, dx, dy, e, hR, qx, qy, he, ho⟩ := h
  unfold binD at he
  split at he
  · cases qx; cases qy; cases he
    exact op_add pins s σ H _ _ v u Q I rx ry ⟨_, _, rfl, rfl, ho.int hR⟩
  · cases qx; cases qy; cases he
    exact op_sub pins s σ H _ _ v u Q I rx ry ⟨_, _, rfl, rfl, ho.int hR⟩
  · cases qx; cases qy
    split at he
    · rename_i hs
      cases he
      refine op_mul pins s σ H _ _ v u Q I rx ry ⟨_, _, rfl, rfl, ?_, ho.int hR⟩
      rcases (Bool.or_eq_true_iff.mp hs) with z | z
      · exact .inl (small_of z)
      · exact .inr (small_of z)
    · cases he
  · cases qx; cases qy
    split at he
    · rename_i hs
      cases he
      exact op_fdivN pins s σ H _ _ v u Q I rx ry ⟨_, _, rfl, rfl, hs, ho.int hR⟩
    · cases he
  · cases qx; cases qy
    split at he
    · rename_i hs
      cases he
      exact op_modN pins s σ H _ _ v u Q I rx ry ⟨_, _, rfl, rfl, hs, ho.int hR⟩
    · cases he
  · cases qx; cases qy
    split at he
    · rename_i hs
      cases he
      exact op_pow pins s σ H _ _ v u Q I rx ry ⟨_, _, rfl, rfl, hs, ho.int hR⟩
    · cases he
  · split at he
    · rename_i hl
      cases he
      cases qx with
      | @tup a vs _ h1 q1 =>
        cases qy with
        | @tup b us _ h2 q2 =>
          refine op_catA pins s σ H _ _ v u Q I rx ry ⟨_, _, vs, us, rfl, rfl, h1.sq, h2.sq, ?_, fun z => ?_, fun z z2 => ?_, fun _ _ p hp => ?_⟩
          · rw [q1.length, q2.length]; exact len_of hl
          · subst z
            have := q1.length
            rename_i xs ys
            have e0 : xs = [] := by cases xs with | nil => rfl | cons _ _ => simp at this
            subst e0
            exact ho.val hR (.tup h2 (by simpa using q2))
          · subst z2
            have := q2.length
            rename_i xs ys
            have e0 : ys = [] := by cases ys with | nil => rfl | cons _ _ => simp at this
            subst e0
            exact ho.val hR (.tup h1 (by simpa using q1))
          · exact ho.tup hR (q1.append q2) hp
    · cases he
  · split at he
    · rename_i xs k hl
      cases he
      cases qx with
      | @tup a vs _ h1 q1 =>
        cases qy
        obtain ⟨h0, hk, hz, hn⟩ := hl
        have hn' : vs ≠ [] := fun e => by
          have := q1.length
          rw [e] at this
          cases xs with
          | nil => cases hn
          | cons _ _ => simp at this
        refine op_repT2 pins s σ H _ _ v u Q I rx ry ⟨a, _, vs, rfl, rfl, h1.sq, hn', h0, hk, by rw [q1.length]; exact hz, fun e => ?_, fun _ p hp => ho.tup hR (q1.rep _) hp⟩
        subst e
        exact ho.val hR (.tup h1 (by simpa using q1))
    · cases he
  · cases qx; cases qy
    split at he
    · rename_i hl
      cases he
      exact op_add_str pins s σ H _ _ v u Q I rx ry ⟨_, _, rfl, rfl, len_of hl, ho.str hR⟩
    · cases he
  · split at he
    · rename_i xs ys h1 h2
      split at he
      · rename_i hl
        cases he
        obtain ⟨a, vs, rfl, ha, qa⟩ := rdT_at hR qx h1
        obtain ⟨b, us, rfl, hb, qb⟩ := rdT_at hR qy h2
        exact op_cat pins s σ H _ _ v u Q I rx ry ⟨a, b, vs, us, rfl, rfl, ha, hb, by rw [qa.length, qb.length]; exact len_of hl, fun p hp => ho.new hR (qa.append qb) hp⟩
      · cases he
    · cases he
  · cases qy
    split at he
    · rename_i xs h1
      split at he
      · rename_i hl
        cases he
        obtain ⟨a, vs, rfl, ha, qa⟩ := rdT_at hR qx h1
        obtain ⟨h0, h1, hl⟩ := hl
        exact op_rep pins s σ H _ _ v u Q I rx ry ⟨a, _, vs, rfl, rfl, ha, by omega, by omega, by rw [qa.length]; exact len_of hl, fun p hp => ho.new hR (qa.rep _) hp⟩
      · cases he
    · cases he
  · cases he
/-! comparisons -/
def rCmp (K : PySem.W.Frag) (op : CmpOp) : R2 := fun x y H Q => ∃ L M st dx dy b, Rel K L M st H ∧ Val K L M H x dx ∧ Val K L M H y dy ∧ cmpD st op dx dy = some b ∧ Q (.bl b) H
theorem eqD_of {K : PySem.W.Frag} {L M : List Addr} {H : Hp} {st : Store} {x y : V} {dx dy : D} {b : Bool} (hR : Rel K L M st H) (qx : Val K L M H x dx) (qy : Val K L M H y dy) (he : eqD st dx dy = some b) :
    ∃ p q, Dp K H x p ∧ Dp K H y q ∧ SeqAt.shaped p = true ∧ SeqAt.shaped q = true ∧ b = PyData.eqv p q := by
  unfold eqD at he
  split at he
  · rename_i p q h1 h2
    split at he
    · rename_i hs
      cases he
      exact ⟨p, q, toP_dp hR h1 qx, toP_dp hR h2 qy, hs.1, hs.2, rfl⟩
    · cases he
  · cases he
theorem in_tupR (hu : X.A.units + 65 < cLine) : OpR X (compareOp .In) (fun x y H Q => ∃ d ds, Dp X.K H x d ∧ Dp X.K H y (.tuple ds) ∧ SeqAt.shaped d = true ∧ SeqAt.shaped (.tuple ds) = true ∧ Q (.bl (ds.any fun z => PyData.eqv z d)) H) := by
  intro pins s σ H x y v u Q I rx ry h
  obtain ⟨d, ds, hd, he, sd, se, q⟩ := h
  obtain ⟨as, r1⟩ := Dp.reads I d x v hd rx
  obtain ⟨bs, r2⟩ := Dp.reads I (.tuple ds) y u he ry
  exact SeqAt.in_tuple_reads r2 r1 (SeqAt.canLay_of_shaped se) (SeqAt.canLay_of_shaped sd) (by
    have := SeqAt.depth_of_shaped sd
    omega) ⟨.bl _, H, I, rfl, q⟩
theorem notIn_tupR (hu : X.A.units + 65 < cLine) : OpR X (compareOp .NotIn) (fun x y H Q => ∃ d ds, Dp X.K H x d ∧ Dp X.K H y (.tuple ds) ∧ SeqAt.shaped d = true ∧ SeqAt.shaped (.tuple ds) = true ∧ Q (.bl (!ds.any fun z => PyData.eqv z d)) H) := by
  intro pins s σ H x y v u Q I rx ry h
  obtain ⟨d, ds, hd, he, sd, se, q⟩ := h
  obtain ⟨as, r1⟩ := Dp.reads I d x v hd rx
  obtain ⟨bs, r2⟩ := Dp.reads I (.tuple ds) y u he ry
  exact SeqAt.notIn_tuple_reads r2 r1 (SeqAt.canLay_of_shaped se) (SeqAt.canLay_of_shaped sd) (by
    have := SeqAt.depth_of_shaped sd
    omega) ⟨.bl _, H, I, rfl, q⟩
theorem op_cmp {op : CmpOp} (hu : X.A.units + 65 < cLine) : OpR X (compareOp op) (rCmp X.K op) := by
  intro pins s σ H x y v u Q I rx ry h
  obtain ⟨L, M, st, dx, dy, b, hR, qx, qy, he, ho⟩ := h
  unfold cmpD at he
  split at he
  · obtain ⟨p, q, h1, h2, s1, s2, rfl⟩ := eqD_of hR qx qy he
    exact op_eqD (by omega) pins s σ H _ _ v u Q I rx ry ⟨p, q, h1, h2, s1, s2, ho⟩
  · split at he
    · rename_i c hc
      cases he
      obtain ⟨p, q, h1, h2, s1, s2, rfl⟩ := eqD_of hR qx qy hc
      exact op_neD (by omega) pins s σ H _ _ v u Q I rx ry ⟨p, q, h1, h2, s1, s2, ho⟩
    · cases he
  · unfold inD at he
    split at he
    · rename_i p qs h1 h2
      split at he
      · rename_i hs
        cases he
        exact op_inD hu pins s σ H _ _ v u Q I rx ry ⟨p, qs, toP_dp hR h1 qx, toP_dp hR h2 qy, hs.1, hs.2, ho⟩
      · cases he
    · rename_i p qs h1 h2
      split at he
      · rename_i hs
        cases he
        exact in_tupR hu pins s σ H _ _ v u Q I rx ry ⟨p, qs, toP_dp hR h1 qx, toP_dp hR h2 qy, hs.1, hs.2, ho⟩
      · cases he
    · cases he
  · split at he
    · rename_i c hc
      cases he
      unfold inD at hc
      split at hc
      · rename_i p qs h1 h2
        split at hc
        · rename_i hs
          cases hc
          exact op_notInD hu pins s σ H _ _ v u Q I rx ry ⟨p, qs, toP_dp hR h1 qx, toP_dp hR h2 qy, hs.1, hs.2, ho⟩
        · cases hc
      · rename_i p qs h1 h2
        split at hc
        · rename_i hs
          cases hc
          exact notIn_tupR hu pins s σ H _ _ v u Q I rx ry ⟨p, qs, toP_dp hR h1 qx, toP_dp hR h2 qy, hs.1, hs.2, ho⟩
        · cases hc
      · cases hc
    · cases he
  · cases qx; cases qy
    unfold cmpI at he
    split at he <;> first | (cases he; done) | skip
    · cases he; exact op_lt pins s σ H _ _ v u Q I rx ry ⟨_, _, rfl, rfl, ho⟩
    · cases he; exact op_le pins s σ H _ _ v u Q I rx ry ⟨_, _, rfl, rfl, ho⟩
    · cases he; exact op_gt pins s σ H _ _ v u Q I rx ry ⟨_, _, rfl, rfl, ho⟩
    · cases he; exact op_ge pins s σ H _ _ v u Q I rx ry ⟨_, _, rfl, rfl, ho⟩
  · cases he
/-! x is c -/
def rIsC (K : PySem.W.Frag) (c : D) (neg : Bool) : V → Hp → VK → Prop := fun x H Q => ∃ L M d b, Val K L M H x d ∧ isD d c = some b ∧ Q (.bl (if neg then !b else b)) H
theorem is_val {K : PySem.W.Frag} {L M : List Addr} {H : Hp} {x : V} {d : D} (q : Val K L M H x d) : (decide (x = V.non) = true) = (d = .non) := by
  cases q <;> simp

/-! ### subscripts, slices -/
def rIdx (K : PySem.W.Frag) : R2 := fun x y H Q => ∃ L M st dx dy d, Rel K L M st H ∧ Val K L M H x dx ∧ Val K L M H y dy ∧ idxD st dx dy = some d ∧ OkE K L Q M H st (.v d)
theorem atI_vls {K : PySem.W.Frag} {L M : List Addr} {H : Hp} {vs : List V} {xs : List D} (q : Vls K L M H vs xs) {k : Int} {d : D} (e : atI xs k = some d) : ∃ v, atI vs k = some v ∧ Val K L M H v d := by
  unfold atI at e ⊢
  rw [q.length]
  cases hj : ixN xs.length k with
  | none => rw [hj] at e; cases e
  | some j =>
    rw [hj] at e
    obtain ⟨v, h1, h2⟩ := q.get (i := j) (d := d) e
    exact ⟨v, h1, h2⟩
theorem keyD_vls {K : PySem.W.Frag} {L M : List Addr} {H : Hp} : ∀ {ds : List D} {vs : List V} {k : List Key}, keyD ds = some k → Vls K L M H vs ds → vs = k.map kV
  | [], _, _, e, q => by cases e; cases q; rfl
  | d :: ds, _, k, e, q => by
    cases q with
    | cons h hs =>
      cases h <;> simp only [keyD] at e <;> try (cases e)
      · split at e
        · rename_i ks hk
          cases e
          rw [keyD_vls hk hs]; rfl
        · cases e
      · split at e
        · rename_i ks hk
          cases e
          rw [keyD_vls hk hs]; rfl
        · cases e
theorem KvR.getK {κ : Type} [DecidableEq κ] {K : PySem.W.Frag} {L M : List Addr} {H : Hp} {k : κ} {d : D} {ks : List (κ × V)} {kvs : List (κ × D)} (r : KvR K L M H ks kvs) (e : gK kvs k = some d) : ∃ v, valV ks k = some v ∧ Val K L M H v d := by
  unfold KvR at r
  induction r with
  | nil => cases e
  | @cons p q ps qs h t ih =>
    by_cases hq : q.1 = k
    · have e0 : gK (q :: qs) k = some q.2 := by simp [Cl.gK, List.find?_cons, hq]
      rw [e0] at e; cases e
      exact ⟨p.2, valV_pos (h.1.trans hq), h.2⟩
    · have e0 : gK (q :: qs) k = gK qs k := by simp [Cl.gK, List.find?_cons, hq]
      rw [e0] at e
      rw [valV_neg (fun z => hq (h.1.symm.trans z))]
      exact ih e
theorem KvR.any {κ : Type} [DecidableEq κ] {K : PySem.W.Frag} {L M : List Addr} {H : Hp} {k : κ} {ks : List (κ × V)} {kvs : List (κ × D)} (r : KvR K L M H ks kvs) : (ks.any fun kv => decide (kv.1 = k)) = kvs.any fun kv => decide (kv.1 = k) := by
  unfold KvR at r
  induction r with
  | nil => rfl
  | @cons p q ps qs h t ih => rw [List.any_cons, List.any_cons, ih, h.1]
theorem KvR.len {κ : Type} {K : PySem.W.Frag} {L M : List Addr} {H : Hp} {ks : List (κ × V)} {kvs : List (κ × D)} (r : KvR K L M H ks kvs) : ks.length = kvs.length := Paired.length r
theorem KvR.repl {κ : Type} [DecidableEq κ] {K : PySem.W.Frag} {L M : List Addr} {H : Hp} {k : κ} {v : V} {d : D} {ks : List (κ × V)} {kvs : List (κ × D)} (r : KvR K L M H ks kvs) (q : Val K L M H v d) :
    KvR K L M H (ks.map fun kv => if kv.1 = k then (kv.1, v) else kv) (kvs.map fun kv => if kv.1 = k then (kv.1, d) else kv) := by
  unfold KvR at r ⊢
  induction r with
  | nil => exact .nil
  | @cons p q' ps qs h t ih =>
    rw [List.map_cons, List.map_cons]
    refine .cons ?_ ih
    rw [h.1]
    split
    · exact ⟨rfl, q⟩
    · exact h
theorem KvR.app {κ : Type} {K : PySem.W.Frag} {L M : List Addr} {H : Hp} {ks ks' : List (κ × V)} {kvs kvs' : List (κ × D)} (r : KvR K L M H ks kvs) (r' : KvR K L M H ks' kvs') : KvR K L M H (ks ++ ks') (kvs ++ kvs') := by
  unfold KvR at r r' ⊢
  induction r with
  | nil => exact r'
  | cons h t ih => exact .cons h ih
theorem KvR.put {κ : Type} [DecidableEq κ] {K : PySem.W.Frag} {L M : List Addr} {H : Hp} {k : κ} {v : V} {d : D} {ks : List (κ × V)} {kvs : List (κ × D)} (r : KvR K L M H ks kvs) (q : Val K L M H v d) :
    KvR K L M H (putK ks k v) (pK kvs k d) := by
  unfold putK pK
  rw [r.any]
  split
  · exact r.repl q
  · exact r.app (.cons ⟨rfl, q⟩ .nil)
theorem pK_len {κ : Type} [DecidableEq κ] (kvs : List (κ × D)) (k : κ) (d : D) : (pK kvs k d).length ≤ kvs.length + 1 := by
  unfold pK
  split
  · rw [List.length_map]; omega
  · simp
theorem ix_idx (hu : X.A.units + 1 < cLine) : IxR X (rIdx X.K) := by
  intro va sl pins s σ H x y v u Q I rx ry h hs
  obtain ⟨L, M, st, dx, dy, d, hR, qx, qy, he, ho⟩ := h
  unfold idxD at he
  split at he
  · split at he
    · rename_i k xs hx
      obtain ⟨a, vs, rfl, h1, h2⟩ := rdS_sq hR qx hx
      cases qy
      obtain ⟨w, hw, qw⟩ := atI_vls h2 he
      rcases h1 with h1 | h1
      · exact ix_list va sl pins s σ H _ _ v u Q I rx ry ⟨a, vs, _, w, rfl, rfl, h1, hw, ho.val hR qw⟩ hs
      · exact ix_tup va sl pins s σ H _ _ v u Q I rx ry ⟨a, vs, _, w, rfl, rfl, h1, hw, ho.val hR qw⟩ hs
    · cases he
  · split at he
    · split at he
      · rename_i n kvs hx
        split at he
        · rename_i k hk
          cases qx with
          | @loc a _ hn =>
          cases qy with
          | @tup b ws _ h1 q1 =>
          obtain ⟨ks, h2, h3⟩ := hR.obj _ _ _ hn hx
          obtain ⟨w, hw, qw⟩ := h3.getK he
          have e1 := keyD_vls hk q1
          have g : DGet H a (.ref b) (some w) := by
            rw [← hw]
            exact .t h2 (by rw [← e1]; exact h1.1)
          cases (show v = Value.ref a from rx)
          refine PyProof.Rows.tail_any (ops := [.ref a, u]) (dict_typeIs I g) PySem.F.slot_dict_getitem.lookup (d_getItem hu I g ry fun w' s3 I3 rw' => ⟨w, H, I3, rw', ho.val hR qw⟩) hs
        · cases he
      · cases he
    · cases he
  · cases he
def rSlc (K : PySem.W.Frag) : V → Option Int → Option Int → Hp → VK → Prop := fun x lo hi H Q => ∃ L M st dx e, Rel K L M st H ∧ Val K L M H x dx ∧ slcD st dx lo hi = some e ∧ OkE K L Q M H st e
theorem cut_vls {K : PySem.W.Frag} {L M : List Addr} {H : Hp} {vs : List V} {xs : List D} (q : Vls K L M H vs xs) (lo hi : Option Int) : Vls K L M H (cutV vs lo hi) (cutD xs lo hi) := by
  unfold cutV cutD
  rw [q.length]
  exact (q.drop _).take _
theorem sl_slc : SlR X (rSlc X.K) := by
  intro pins s σ H x v vl vu lo hi sl Q I rx hs pl pu h
  obtain ⟨L, M, st, dx, e, hR, qx, he, ho⟩ := h
  unfold slcD at he
  split at he
  · rename_i xs
    cases he
    cases qx with
    | @tup a vs _ h1 q1 =>
      refine sl_tupA pins s σ H _ v vl vu lo hi sl Q I rx hs pl pu ⟨a, vs, rfl, h1.sq, fun z => ?_, fun _ p hp => ho.tup hR (cut_vls q1 lo hi) hp⟩
      refine ho.val hR ?_
      have e0 : cutD xs lo hi = xs := by
        unfold cutD
        rw [q1.length] at z
        rw [z.1, z.2]
        simp
      rw [e0]
      exact .tup h1 q1
  · split at he
    · rename_i xs hx
      cases he
      obtain ⟨a, vs, rfl, h1, h2⟩ := rdL_sq hR qx hx
      exact sl_list pins s σ H _ v vl vu lo hi sl Q I rx hs pl pu ⟨a, vs, rfl, h1, fun p hp => ho.new hR (cut_vls h2 lo hi) hp⟩
    · cases he

/-! ### built-in functions -/
theorem insI_perm (x : Int) : ∀ l : List Int, (insI x l).Perm (x :: l)
  | [] => .refl _
  | y :: r => by
    unfold insI
    split
    · exact .refl _
    · exact ((insI_perm x r).cons y).trans (List.Perm.swap x y r)
theorem srtI_perm : ∀ l : List Int, (srtI l).Perm l
  | [] => .refl _
  | x :: r => (insI_perm x (srtI r)).trans ((srtI_perm r).cons x)
theorem insI_sorted (x : Int) : ∀ l : List Int, l.Pairwise (· ≤ ·) → (insI x l).Pairwise (· ≤ ·)
  | [], _ => by simp [insI]
  | y :: r, h => by
    unfold insI
    have hy := List.pairwise_cons.mp h
    split
    · rename_i hxy
      exact List.pairwise_cons.mpr ⟨fun z hz => (List.mem_cons.mp hz).elim (fun e => e ▸ hxy) fun hz => Int.le_trans hxy (hy.1 z hz), h⟩
    · rename_i hxy
      refine List.pairwise_cons.mpr ⟨fun z hz => ?_, insI_sorted x r hy.2⟩
      rcases List.mem_cons.mp ((insI_perm x r).mem_iff.mp hz) with e | hz
      · omega
      · exact hy.1 z hz
theorem srtI_sorted : ∀ l : List Int, (srtI l).Pairwise (· ≤ ·)
  | [] => .nil
  | x :: r => insI_sorted x _ (srtI_sorted r)
theorem sorted_uniq {a b : List Int} (p : a.Perm b) (ha : a.Pairwise (· ≤ ·)) (hb : b.Pairwise (· ≤ ·)) : a = b :=
  p.eq_of_pairwise (fun x y _ _ h1 h2 => Int.le_antisymm h1 h2) ha hb
def rBi (K : PySem.W.Frag) (f : BI) : List V → Hp → VK → Prop := fun vs H Q => ∃ L M st ds e, Rel K L M st H ∧ Vls K L M H vs ds ∧ biD st f ds = some e ∧ OkE K L Q M H st e
def biT : BI → Value
  | .len => .builtin "len" | .tuple => .type "tuple" | .list => .type "list" | .abs => .builtin "abs" | .int => .type "int" | .max => .builtin "max" | .min => .builtin "min"
  | .sum => .builtin "sum" | .any => .builtin "any" | .all => .builtin "all" | .sorted => .builtin "sorted"
theorem vls1 {K : PySem.W.Frag} {L M : List Addr} {H : Hp} {vs : List V} {x : D} (q : Vls K L M H vs [x]) : ∃ v, vs = [v] ∧ Val K L M H v x := by
  cases q with
  | cons h hs => cases hs; exact ⟨_, rfl, h⟩
theorem vls2 {K : PySem.W.Frag} {L M : List Addr} {H : Hp} {vs : List V} {x y : D} (q : Vls K L M H vs [x, y]) : ∃ v w, vs = [v, w] ∧ Val K L M H v x ∧ Val K L M H w y := by
  cases q with
  | cons h hs =>
    obtain ⟨w, rfl, h2⟩ := vls1 hs
    exact ⟨_, w, rfl, h, h2⟩
theorem call_bi (hc : X.calm = true) : ∀ f : BI, CallR X (biT f) (rBi X.K f) := by
  intro f pins s σ H vs us Q I r h
  obtain ⟨L, M, st, ds, e, hR, q, he, ho⟩ := h
  unfold biD at he
  split at he
  · -- len
    obtain ⟨v, rfl, qv⟩ := vls1 q
    split at he
    · split at he
      · rename_i hl
        cases he; cases qv
        exact call_len_str pins s σ H _ us Q I r ⟨_, rfl, len_of hl, ho.int hR⟩
      · cases he
    · split at he
      · rename_i xs hx
        cases he
        obtain ⟨a, ws, rfl, h1, h2⟩ := rdS_sq hR qv hx
        exact call_len_seq pins s σ H _ us Q I r ⟨a, ws, rfl, h1, by rw [h2.length]; exact ho.int hR⟩
      · cases he
  · -- tuple
    obtain ⟨v, rfl, qv⟩ := vls1 q
    split at he
    · cases he
      cases qv with
      | @tup a ws _ h1 q1 => exact call_tuple_of pins s σ H _ us Q I r ⟨a, ws, rfl, .inr ⟨h1.sq, ho.val hR (.tup h1 q1)⟩⟩
    · split at he
      · rename_i xs hx
        cases he
        obtain ⟨a, ws, rfl, h1, h2⟩ := rdL_sq hR qv hx
        exact call_tuple_of pins s σ H _ us Q I r ⟨a, ws, rfl, .inl ⟨h1, fun p hp => ho.tup hR h2 hp⟩⟩
      · cases he
  · -- list
    obtain ⟨v, rfl, qv⟩ := vls1 q
    split at he
    · rename_i xs hx
      cases he
      obtain ⟨a, ws, rfl, h1, h2⟩ := rdS_sq hR qv hx
      exact call_list_of pins s σ H _ us Q I r ⟨a, ws, rfl, h1, fun p hp => ho.new hR h2 hp⟩
    · cases he
  · obtain ⟨v, rfl, qv⟩ := vls1 q
    cases he; cases qv
    exact call_abs pins s σ H _ us Q I r ⟨_, rfl, ho.int hR⟩
  · obtain ⟨v, rfl, qv⟩ := vls1 q
    cases he; cases qv
    exact call_int1 pins s σ H _ us Q I r (.inl ⟨_, rfl, ho.int hR⟩)
  · obtain ⟨v, rfl, qv⟩ := vls1 q
    cases he; cases qv
    exact call_int1 pins s σ H _ us Q I r (.inr ⟨_, rfl, ho.int hR⟩)
  · obtain ⟨v, w, rfl, qv, qw⟩ := vls2 q
    cases he; cases qv; cases qw
    exact call_max2 hc pins s σ H _ us Q I r ⟨_, _, rfl, ho.int hR⟩
  · obtain ⟨v, w, rfl, qv, qw⟩ := vls2 q
    cases he; cases qv; cases qw
    exact call_min2 hc pins s σ H _ us Q I r ⟨_, _, rfl, ho.int hR⟩
  · -- sum
    obtain ⟨v, rfl, qv⟩ := vls1 q
    split at he
    · rename_i xs hx
      split at he
      · rename_i is hi
        cases he
        obtain ⟨a, ws, rfl, h1, h2⟩ := rdL_sq hR qv hx
        rw [h2.ints hi] at h1
        exact cr_sum hc pins s σ H _ us Q I r ⟨a, is, rfl, h1, ho.int hR⟩
      · cases he
    · cases he
  · -- any
    obtain ⟨v, rfl, qv⟩ := vls1 q
    split at he
    · rename_i xs hx
      split at he
      · rename_i is hi
        cases he
        obtain ⟨a, ws, rfl, h1, h2⟩ := rdL_sq hR qv hx
        rw [h2.bls hi] at h1
        exact cr_any hc pins s σ H _ us Q I r ⟨a, is, rfl, h1, ho.bl hR⟩
      · cases he
    · cases he
  · -- all
    obtain ⟨v, rfl, qv⟩ := vls1 q
    split at he
    · rename_i xs hx
      split at he
      · rename_i is hi
        cases he
        obtain ⟨a, ws, rfl, h1, h2⟩ := rdL_sq hR qv hx
        rw [h2.bls hi] at h1
        exact cr_all hc pins s σ H _ us Q I r ⟨a, is, rfl, h1, ho.bl hR⟩
      · cases he
    · cases he
  · -- sorted
    obtain ⟨v, rfl, qv⟩ := vls1 q
    split at he
    · rename_i xs hx
      split at he
      · rename_i is hi
        cases he
        obtain ⟨a, ws, rfl, h1, h2⟩ := rdS_sq hR qv hx
        rw [h2.ints hi] at h1
        have fin : ∀ (ns' : List Int) (p : Addr), ns'.Perm is → ns'.Pairwise (· ≤ ·) → H p = none → Q (.ref p) (upd H p (.lst (ns'.map V.int))) := fun ns' p hp hs hn => by
          have e0 : ns' = srtI is := sorted_uniq (hp.trans (srtI_perm is).symm) hs (srtI_sorted is)
          subst e0
          exact ho.new hR (.ofInts _) hn
        rcases h1 with h1 | h1
        · exact cr_sortedI pins s σ H _ us Q I r ⟨a, is, rfl, h1, fin⟩
        · exact cr_sortedIT pins s σ H _ us Q I r ⟨a, is, rfl, h1, fin⟩
      · cases he
    · cases he
  · cases he
end
end Cl

/-! Cl, part E: the rules of the expressions, by their syntax. -/
namespace Cl
open PySem L2

/-! ### what the syntax must be -/
/-- not a set display, not starred, not a slice -/
def plE : Expr → Bool
  | .Set .. => false
  | .Starred .. => false
  | .Slice .. => false
  | _ => true
/-- its test is its value's truth -/
def plT : Expr → Bool
  | .UnaryOp .Not _ _ => false
  | .BoolOp .. => false
  | .IfExp .. => false
  | .Compare .. => false
  | _ => true
/-- a receiver -/
def plO : Expr → Bool
  | .Name .. => true
  | .Subscript .. => true
  | _ => false
section
variable {env : PySem.Env} {e b : Expr} {es : List Expr} {pos : Pos}
theorem star_cons (h : plE e = true) : starEach (e :: es) env = (false, eval e env) :: starEach es env := by
  cases e <;> first | rfl | cases h
theorem star_none : ∀ {es : List Expr}, es.all plE = true → (backTo pos (starEach es env)).any (·.1) = false
  | [], _ => rfl
  | e :: es, h => by
    simp only [List.all_cons, Bool.and_eq_true] at h
    rw [star_cons h.1]
    show (false || (backTo pos (starEach es env)).any (·.1)) = false
    rw [star_none h.2]; rfl
theorem nomarkP {op : CmpOp} (h : plE b = true) : behindInMarks op b = false := by
  cases b <;> first | rfl | cases h
theorem plainIx (h : plE b = true) : PlainIx b := by
  intro o i
  cases b <;> first | rfl | cases h
theorem isTrueP (h : plT e = true) (whole : Sem Value) : isTrue e env whole = (do let v ← whole; standAt e.pos; holding [v] (truthy v)) := by
  cases e <;> first | rfl | (cases h; done) | skip
  all_goals first | (rename_i op _ _; cases op <;> first | rfl | cases h)
theorem baseO {f : Str} (h : plO e = true) : attributeBase e f env (eval e env) = eval e env := by
  cases e <;> first | rfl | cases h
end
section
variable {K : PySem.W.Frag} {mg : Str → Option Value} {W : WX} {σ : St} {H : Hp}
/-- two values, then an operation by values -/
theorem lx2 {Q : VK} {r : R2} {fa fb : Env → Cl.M E} {g : D → D → Store → Option E}
    (hr : ∀ L M st dx dy x y H e, Rel K L M st H → Val K L M H x dx → Val K L M H y dy → g dx dy st = some e → OkE K L Q M H st e → r x y H Q)
    (h : LX K mg W (fun env => bnd (fa env) fun x => bnd (fb env) fun y => fun st => lft (g x.val y.val st) st) σ H Q) : tOp r (LX K mg W fa) (LX K mg W fb) σ H Q := by
  obtain ⟨L, M, st, env, hE, hR, h⟩ := h
  refine ⟨L, M, st, env, hE, hR, (Run.bnd OkE.mono h).mono fun st1 x k => OkE.of fun M1 H1 v e1 R1 v1 => ?_⟩
  refine ⟨L, M1, st1, env, hE.ext e1, R1, (Run.bnd OkE.mono (k M1 H1 e1)).mono fun st2 y k2 => OkE.of fun M2 H2 u e2 R2 v2 => ?_⟩
  obtain ⟨e, he, ho⟩ := Run.lft (Run.eq (m' := lft (g x.val y.val st2)) (k2 M2 H2 e2) rfl)
  exact hr L M2 st2 _ _ _ _ _ e R2 (v1.ext e2) v2 he ho
/-- one value, then an operation by it -/
theorem lx1 {Q : VK} {fa : Env → Cl.M E} {g : D → Store → Option E} {r : V → Hp → VK → Prop}
    (hr : ∀ L M st dx x H e, Rel K L M st H → Val K L M H x dx → g dx st = some e → OkE K L Q M H st e → r x H Q)
    (h : LX K mg W (fun env => bnd (fa env) fun x => fun st => lft (g x.val st) st) σ H Q) : LX K mg W fa σ H (fun x H1 => r x H1 Q) := by
  obtain ⟨L, M, st, env, hE, hR, h⟩ := h
  refine ⟨L, M, st, env, hE, hR, (Run.bnd OkE.mono h).mono fun st1 x k => OkE.of fun M1 H1 v e1 R1 v1 => ?_⟩
  obtain ⟨e, he, ho⟩ := Run.lft (Run.eq (m' := lft (g x.val st1)) (k M1 H1 e1) rfl)
  exact hr L M1 st1 _ _ _ e R1 v1 he ho
end
section
variable {cf : CF} {X : Cx} {W : WX} {a b c : CE} {ea eb ec : Expr} {pos : Pos}
theorem sx_bin {op : Operator} (ha : SX cf X W a ea) (hb : SX cf X W b eb) : SX cf X W (.bin op a b) (.BinOp ea op eb pos) :=
  PE_mono (pe_op op_bin ha hb) fun σ H Q h => lx2 (g := fun x y st => binD st op x y) (fun L M st dx dy x y H e hR q1 q2 he ho => ⟨L, M, st, dx, dy, e, hR, q1, q2, he, ho⟩) h
theorem sx_neg (ha : SX cf X W a ea) : SX cf X W (.neg a) (.UnaryOp .USub ea pos) := by
  refine PE_mono (pe_un un_neg ha) fun σ H Q h => ?_
  refine lx1 (r := fun x H Q => (rU fun i => .int (-i)) x H Q) (g := fun d st => match d with | .int i => some (.v (.int (-i))) | _ => none) (fun L M st dx x H e hR q he ho => ?_) ?_
  · split at he
    · cases he; cases q
      exact ⟨_, rfl, ho.int hR⟩
    · cases he
  · obtain ⟨L, M, st, env, hE, hR, h⟩ := h
    refine ⟨L, M, st, env, hE, hR, Run.eq h ?_⟩
    show bnd (evX cf a env) _ st = bnd (evX cf a env) _ st
    unfold bnd
    cases evX cf a env st with
    | none => rfl
    | some p =>
      obtain ⟨r, st1⟩ := p
      cases r with
      | ok x =>
        cases x with
        | v d => cases d <;> rfl
        | f ds => rfl
      | ex x => rfl
theorem sx_cmp {op : CmpOp} (hu : X.A.units + 65 < cLine) (hp : plE eb = true) (ha : SX cf X W a ea) (hb : SX cf X W b eb) : SX cf X W (.cmp op a b) (.Compare ea [op] [eb] pos) :=
  PE_mono (pe_cmpR (op_cmp hu) ha hb (nomarkP hp)) fun σ H Q h => lx2 (g := fun x y st => (cmpD st op x y).map fun b => .v (.bl b)) (fun L M st dx dy x y H e hR q1 q2 he ho => by
    obtain ⟨b, hb, rfl⟩ := Option.map_eq_some_iff.mp he
    exact ⟨L, M, st, dx, dy, b, hR, q1, q2, hb, ho.bl hR⟩) h
/-- a test whose value is a bool -/
theorem lt_of {K : PySem.W.Frag} {mg : Str → Option Value} {σ : St} {H : Hp} {fx : Env → Cl.M E} {Q : Bool → Hp → Prop}
    (h : LT K mg W (fun env => bnd (fx env) fun v => fun st => lft (truD st v.val) st) σ H Q) : LX K mg W fx σ H fun x H1 => ∃ k, TruV K x H1 k ∧ Q k H1 := by
  obtain ⟨L, M, st, env, hE, hR, h⟩ := h
  refine ⟨L, M, st, env, hE, hR, (Run.bnd OkB.mono h).mono fun st1 x k => OkE.of fun M1 H1 v e1 R1 v1 => ?_⟩
  obtain ⟨b, he, ho⟩ := Run.lft (Run.eq (m' := lft (truD st1 x.val)) (k M1 H1 e1) rfl)
  exact ⟨b, truD_tru R1 v1 he, ho M1 H1 (.refl _ _) R1⟩
/-- the test of a plain expression -/
theorem st_plain (hp : plT ea = true) (ht : ∀ env, evT cf a env = bnd (evX cf a env) fun v => fun st => lft (truD st v.val) st) (ha : SX cf X W a ea) : ST cf X W a ea := by
  refine PT_mono (pt_truth ha (isTrueP hp)) fun σ H Q h => lt_of ?_
  obtain ⟨L, M, st, env, hE, hR, h⟩ := h
  exact ⟨L, M, st, env, hE, hR, by show Run _ _ _ _ _ _ _ _ (bnd (evX cf a env) fun v => fun st => lft (truD st v.val) st) st; rw [← ht]; exact h⟩
theorem later_mono {α β : Type} {K : PySem.W.Frag} {mg : Str → Option Value} {L : List Addr} {W : WX} {σ : St} {Ok : List Addr → Hp → Store → β → Prop} {g : α → Cl.M β} :
    Mono (fun M' H' st1 (a : α) => ∀ M1 H1, Ext M' H' M1 H1 → Run K mg L W σ Ok M1 H1 (g a) st1) := fun _ _ _ _ _ _ e h M2 H2 e2 => h M2 H2 (e.trans e2)
theorem st_cmp {op : CmpOp} (hu : X.A.units + 65 < cLine) (hp : plE eb = true) (ha : SX cf X W a ea) (hb : SX cf X W b eb) : ST cf X W (.cmp op a b) (.Compare ea [op] [eb] pos) := by
  refine PT_mono (pt_cmpR (op_cmp hu) ha hb (nomarkP hp)) fun σ H Q h => ?_
  obtain ⟨L, M, st, env, hE, hR, h⟩ := h
  refine ⟨L, M, st, env, hE, hR, (Run.bnd later_mono (Run.bnd OkB.mono h)).mono fun st1 x k => OkE.of fun M1 H1 v e1 R1 v1 => ?_⟩
  refine ⟨L, M1, st1, env, hE.ext e1, R1, (Run.bnd later_mono (k M1 H1 e1)).mono fun st2 y k2 => OkE.of fun M2 H2 u e2 R2 v2 => ?_⟩
  obtain ⟨e, he, ho⟩ := Run.lft (Run.eq (m' := lft ((cmpD st2 op x.val y.val).map fun b => E.v (.bl b))) (k2 M2 H2 e2) rfl)
  obtain ⟨b, hb, rfl⟩ := Option.map_eq_some_iff.mp he
  obtain ⟨b', hb', ho'⟩ := Run.lft (Run.eq (m' := lft (truD st2 (.bl b))) (ho M2 H2 (.refl _ _)) rfl)
  cases hb'
  exact ⟨L, M2, st2, x.val, y.val, b, R2, v1.ext e2, v2, hb, b, rfl, ho' M2 H2 (.refl _ _) R2⟩
theorem sx_chain {o1 o2 : CmpOp} (hu : X.A.units + 65 < cLine) (hp : plE ec = true) (ha : SX cf X W a ea) (hb : SX cf X W b eb) (hc : SX cf X W c ec) : SX cf X W (.chain o1 o2 a b c) (.Compare ea [o1, o2] [eb, ec] pos) := by
  refine PE_mono (pe_chain (op_cmp hu) (op_cmp hu) ha hb hc (nomarkP hp)) fun σ H Q h => ?_
  obtain ⟨L, M, st, env, hE, hR, h⟩ := h
  refine ⟨L, M, st, env, hE, hR, (Run.bnd OkE.mono h).mono fun st1 x k => OkE.of fun M1 H1 v e1 R1 v1 => ?_⟩
  refine ⟨L, M1, st1, env, hE.ext e1, R1, (Run.bnd OkE.mono (k M1 H1 e1)).mono fun st2 y k2 => OkE.of fun M2 H2 u e2 R2 v2 => ?_⟩
  obtain ⟨r, st', e, q⟩ := k2 M2 H2 e2
  dsimp only at e
  split at e
  · rename_i hc1
    refine ⟨L, M2, st2, x.val, y.val, true, R2, v1.ext e2, v2, hc1, true, rfl, ?_⟩
    rw [if_pos rfl]
    refine ⟨L, M2, st2, env, (hE.ext e1).ext e2, R2, (Run.bnd OkE.mono ⟨r, st', e, q⟩).mono fun st3 z k3 => OkE.of fun M3 H3 t e3 R3 v3 => ?_⟩
    obtain ⟨e', he, ho⟩ := Run.lft (Run.eq (m' := lft ((cmpD st3 o2 y.val z.val).map fun b => .v (.bl b))) (k3 M3 H3 e3) rfl)
    obtain ⟨b, hb, rfl⟩ := Option.map_eq_some_iff.mp he
    exact ⟨L, M3, st3, y.val, z.val, b, R3, v2.ext e3, v3, hb, ho.bl R3⟩
  · rename_i hc1
    cases e
    refine ⟨L, M2, _, x.val, y.val, false, R2, v1.ext e2, v2, hc1, false, rfl, ?_⟩
    rw [if_neg Bool.false_ne_true]
    exact OkE.bl q R2
  · cases e
theorem st_chain {o1 o2 : CmpOp} (hu : X.A.units + 65 < cLine) (hp : plE ec = true) (ha : SX cf X W a ea) (hb : SX cf X W b eb) (hc : SX cf X W c ec) : ST cf X W (.chain o1 o2 a b c) (.Compare ea [o1, o2] [eb, ec] pos) := by
  refine PT_mono (pt_chain (op_cmp hu) (op_cmp hu) ha hb hc (nomarkP hp)) fun σ H Q h => ?_
  obtain ⟨L, M, st, env, hE, hR, h⟩ := h
  refine ⟨L, M, st, env, hE, hR, (Run.bnd later_mono (Run.bnd OkB.mono h)).mono fun st1 x k => OkE.of fun M1 H1 v e1 R1 v1 => ?_⟩
  refine ⟨L, M1, st1, env, hE.ext e1, R1, (Run.bnd later_mono (k M1 H1 e1)).mono fun st2 y k2 => OkE.of fun M2 H2 u e2 R2 v2 => ?_⟩
  obtain ⟨r, st', e, q⟩ := k2 M2 H2 e2
  dsimp only at e
  split at e
  · rename_i hc1
    refine ⟨L, M2, st2, x.val, y.val, true, R2, v1.ext e2, v2, hc1, true, rfl, ?_⟩
    rw [if_pos rfl]
    refine ⟨L, M2, st2, env, (hE.ext e1).ext e2, R2, (Run.bnd later_mono ⟨r, st', e, q⟩).mono fun st3 z k3 => OkE.of fun M3 H3 t e3 R3 v3 => ?_⟩
    obtain ⟨e', he, ho⟩ := Run.lft (Run.eq (m' := lft ((cmpD st3 o2 y.val z.val).map fun b => E.v (.bl b))) (k3 M3 H3 e3) rfl)
    obtain ⟨b, hb, rfl⟩ := Option.map_eq_some_iff.mp he
    obtain ⟨b', hb', ho'⟩ := Run.lft (Run.eq (m' := lft (truD st3 (.bl b))) (ho M3 H3 (.refl _ _)) rfl)
    cases hb'
    exact ⟨L, M3, st3, y.val, z.val, b, R3, v2.ext e3, v3, hb, b, rfl, ho' M3 H3 (.refl _ _) R3⟩
  · rename_i hc1
    cases e
    refine ⟨L, M2, _, x.val, y.val, false, R2, v1.ext e2, v2, hc1, false, rfl, ?_⟩
    rw [if_neg Bool.false_ne_true]
    obtain ⟨b', hb', ho'⟩ := Run.lft (q M2 H2 (.refl _ _))
    cases hb'
    exact ⟨false, rfl, ho' M2 H2 (.refl _ _) R2⟩
  · cases e
/-- x is c, the constant c -/
inductive IsCon : D → Expr → V → Prop where
  | non (k : Nat) (p : Pos) : IsCon .non (.Constant .none k p) .non
  | bl (b : Bool) (k : Nat) (p : Pos) : IsCon (.bl b) (.Constant (.bool b) k p) (.bl b)
def rIsV (neg : Bool) (c : D) : R2 := fun x y H Q => ∃ (K : PySem.W.Frag) (L M : List Addr) (d : D) (b : Bool), Val K L M H x d ∧ Val K L M H y c ∧ isD d c = some b ∧ Q (.bl (if neg then !b else b)) H
theorem op_isC {cc : D} {neg : Bool} : OpR X (compareOp (if neg then .IsNot else .Is)) (rIsV neg cc) := by
  intro pins s σ H x y v u Q I rx ry h
  obtain ⟨K, L, M, d, b, qx, qy, he, ho⟩ := h
  unfold isD at he
  split at he
  · cases he; cases qx; cases qy
    cases neg with
    | true => exact op_notN pins s σ H _ _ v u Q I rx ry ⟨rfl, by simpa using ho⟩
    | false => exact op_isN pins s σ H _ _ v u Q I rx ry ⟨rfl, by simpa using ho⟩
  · rename_i hx
    cases he; cases qy
    have hn : decide (x = V.non) = false := by cases qx <;> first | rfl | exact absurd rfl hx
    cases neg with
    | true => exact op_notN pins s σ H _ _ v u Q I rx ry ⟨rfl, by rw [hn]; exact ho⟩
    | false => exact op_isN pins s σ H _ _ v u Q I rx ry ⟨rfl, by rw [hn]; exact ho⟩
  · cases he; cases qx; cases qy
    cases neg with
    | true => exact op_notBl pins s σ H _ _ v u Q I rx ry ⟨_, _, rfl, rfl, ho⟩
    | false => exact op_isBl pins s σ H _ _ v u Q I rx ry ⟨_, _, rfl, rfl, ho⟩
  · cases he
theorem sx_isC {cc : D} {cv : V} {neg : Bool} {ec : Expr} (hc : IsCon cc ec cv) (ha : SX cf X W a ea) :
    SX cf X W (.isC a cc neg) (.Compare ea [if neg then .IsNot else .Is] [ec] pos) := by
  have key : ∀ σ H Q, LX X.K X.mg W (evX cf (.isC a cc neg)) σ H Q → tOp (rIsV neg cc) (LX X.K X.mg W (evX cf a)) (tC cv) σ H Q := fun σ H Q h =>
    lx1 (r := fun x H Q => rIsV neg cc x cv H Q) (g := fun d st => (isD d cc).map fun b => .v (.bl (if neg then !b else b))) (fun L M st dx x H e hR q he ho => by
      obtain ⟨b, hb, rfl⟩ := Option.map_eq_some_iff.mp he
      exact ⟨X.K, L, M, dx, b, q, by cases hc <;> constructor, hb, ho.bl hR⟩) h
  cases hc with
  | non k p => exact PE_mono (pe_cmpR op_isC ha pe_non (nomarkP rfl)) key
  | bl b k p => exact PE_mono (pe_cmpR op_isC ha pe_bl (nomarkP rfl)) key
theorem st_isC {cc : D} {cv : V} {neg : Bool} {ec : Expr} (hc : IsCon cc ec cv) (ha : SX cf X W a ea) :
    ST cf X W (.isC a cc neg) (.Compare ea [if neg then .IsNot else .Is] [ec] pos) := by
  have key : ∀ σ H Q, LT X.K X.mg W (evT cf (.isC a cc neg)) σ H Q → tTest (tOp (rIsV neg cc) (LX X.K X.mg W (evX cf a)) (tC cv)) σ H Q := fun σ H Q h => by
    obtain ⟨L, M, st, env, hE, hR, h⟩ := h
    refine ⟨L, M, st, env, hE, hR, (Run.bnd later_mono (Run.bnd OkB.mono h)).mono fun st1 x k => OkE.of fun M1 H1 v e1 R1 v1 => ?_⟩
    obtain ⟨e, he, ho⟩ := Run.lft (k M1 H1 e1)
    obtain ⟨b, hb, rfl⟩ := Option.map_eq_some_iff.mp he
    obtain ⟨b', hb', ho'⟩ := Run.lft (ho M1 H1 (.refl _ _))
    cases hb'
    exact ⟨X.K, L, M1, x.val, b, v1, by cases hc <;> constructor, hb, _, rfl, ho' M1 H1 (.refl _ _) R1⟩
  cases hc with
  | non k p => exact PT_mono (pt_cmpR op_isC ha pe_non (nomarkP rfl)) key
  | bl b k p => exact PT_mono (pt_cmpR op_isC ha pe_bl (nomarkP rfl)) key
/-! not, and, or, a if t else b -/
theorem sx_not (ha : SX cf X W a ea) : SX cf X W (.not a) (.UnaryOp .Not ea pos) := by
  refine PE_mono (pe_notT ha) fun σ H Q h => ?_
  refine lx1 (r := fun x H Q => ∃ k, TruV X.K x H k ∧ Q (.bl (!k)) H) (g := fun d st => (truD st d).map fun b => .v (.bl (!b))) (fun L M st dx x H e hR q he ho => ?_) h
  obtain ⟨b, hb, rfl⟩ := Option.map_eq_some_iff.mp he
  exact ⟨b, truD_tru hR q hb, ho.bl hR⟩
theorem st_not (ha : ST cf X W a ea) : ST cf X W (.not a) (.UnaryOp .Not ea pos) := by
  refine PT_mono (pt_not ha) fun σ H Q h => ?_
  obtain ⟨L, M, st, env, hE, hR, h⟩ := h
  refine ⟨L, M, st, env, hE, hR, (Run.bnd OkB.mono h).mono fun st1 x k M1 H1 e1 R1 => ?_⟩
  exact Run.ret (k M1 H1 e1) M1 H1 (.refl _ _) R1
abbrev SXs (cf : CF) (X : Cx) (W : WX) (op : BoolOp) (c : CE) (es : List Expr) : Prop := ∀ pos, PE X (.BoolOp op es pos) (LX X.K X.mg W (evX cf c))
abbrev STs (cf : CF) (X : Cx) (W : WX) (op : BoolOp) (c : CE) (es : List Expr) : Prop := ∀ pos, PW X (.BoolOp op es pos) (LT X.K X.mg W (evT cf c))
variable {es : List Expr}
theorem sxs_one {op : BoolOp} (ha : SX cf X W a ea) : SXs cf X W op a [ea] := fun _ => pe_one ha
theorem sts_one {op : BoolOp} (ha : ST cf X W a ea) : STs cf X W op a [ea] := fun _ => by
  cases op with
  | And => exact pw_and1 ha
  | Or => exact pw_or1 ha
theorem sxs_and (ha : SX cf X W a ea) (hb : SXs cf X W .And b (eb :: es)) : SXs cf X W .And (.and a b) (ea :: eb :: es) := fun pos => by
  refine PE_mono (pe_and ha (hb pos)) fun σ H Q h => ?_
  obtain ⟨L, M, st, env, hE, hR, h⟩ := h
  refine ⟨L, M, st, env, hE, hR, (Run.bnd OkE.mono h).mono fun st1 x k => OkE.of fun M1 H1 v e1 R1 v1 => ?_⟩
  have k := k M1 H1 e1
  split at k
  · cases v1
    exact ⟨true, rfl, iteT (⟨L, M1, st1, env, hE.ext e1, R1, k⟩)⟩
  · cases v1
    exact ⟨false, rfl, iteF (OkE.bl (Run.ret k) R1)⟩
  · obtain ⟨_, z, _⟩ := Run.lft k
    cases z
theorem sts_and (ha : ST cf X W a ea) (hb : STs cf X W .And b (eb :: es)) : STs cf X W .And (.and a b) (ea :: eb :: es) := fun pos => by
  refine PW_mono (pw_and ha (hb pos)) fun σ H Q h => ?_
  obtain ⟨L, M, st, env, hE, hR, h⟩ := h
  refine ⟨L, M, st, env, hE, hR, (Run.bnd OkB.mono h).mono fun st1 x k M1 H1 e1 R1 => ?_⟩
  have k := k M1 H1 e1
  cases x with
  | true => rw [if_pos rfl] at k; refine iteT ?_; exact ⟨L, M1, st1, env, hE.ext e1, R1, k⟩
  | false => rw [if_neg Bool.false_ne_true] at k; refine iteF ?_; exact Run.ret k M1 H1 (.refl _ _) R1
theorem sts_or (ha : ST cf X W a ea) (hb : STs cf X W .Or b (eb :: es)) : STs cf X W .Or (.or a b) (ea :: eb :: es) := fun pos => by
  refine PW_mono (pw_or ha (hb pos)) fun σ H Q h => ?_
  obtain ⟨L, M, st, env, hE, hR, h⟩ := h
  refine ⟨L, M, st, env, hE, hR, (Run.bnd OkB.mono h).mono fun st1 x k M1 H1 e1 R1 => ?_⟩
  have k := k M1 H1 e1
  cases x with
  | true => rw [if_pos rfl] at k; refine iteT ?_; exact Run.ret k M1 H1 (.refl _ _) R1
  | false => rw [if_neg Bool.false_ne_true] at k; refine iteF ?_; exact ⟨L, M1, st1, env, hE.ext e1, R1, k⟩
theorem sxs_or (ha : SX cf X W a ea) (hb : SXs cf X W .Or b (eb :: es)) : SXs cf X W .Or (.or a b) (ea :: eb :: es) := fun pos => by
  refine PE_mono (pe_orT ha (hb pos)) fun σ H Q h => ?_
  obtain ⟨L, M, st, env, hE, hR, h⟩ := h
  refine ⟨L, M, st, env, hE, hR, (Run.bnd OkE.mono h).mono fun st1 x k => ?_⟩
  cases x with
  | v d =>
    refine OkE.of fun M1 H1 v e1 R1 v1 => ?_
    have k := k M1 H1 e1
    split at k
    · rename_i hd
      cases hd; cases v1
      have k := k M1 H1 e1
      exact ⟨true, rfl, iteT (OkE.bl (Run.ret k) R1)⟩
    · rename_i hd
      cases hd; cases v1
      have k := k M1 H1 e1
      exact ⟨false, rfl, iteF (⟨L, M1, st1, env, hE.ext e1, R1, k⟩)⟩
    · obtain ⟨r, st', e, q⟩ := k
      dsimp only at e
      split at e
      · rename_i hr
        obtain ⟨a, vs, rfl, h1, h2⟩ := rdT_at R1 v1 hr
        refine ⟨false, .inl ⟨vs, .of h1, ?_⟩, iteF (⟨L, M1, st1, env, hE.ext e1, R1, r, st', e, q⟩)⟩
        cases h2; rfl
      · rename_i ys hne hr
        cases e
        obtain ⟨a, vs, rfl, h1, h2⟩ := rdT_at R1 v1 hr
        refine ⟨true, .inl ⟨vs, .of h1, ?_⟩, iteT (OkE.val q R1 v1)⟩
        cases h2 with
        | nil => exact absurd rfl hne
        | cons _ _ => rfl
      · cases e
  | f ds =>
    intro M1 H1 p vs e1 R1 v1 hp
    obtain ⟨r, st', e, q⟩ := k M1 H1 e1
    have e : (match (some ds : Option (List D)) with | some [] => evX cf b env st1 | some _ => some (.ok (.f ds), st1) | none => none) = some (r, st') := e
    cases ds with
    | nil =>
      cases v1
      refine ⟨false, .inl ⟨[], .of upd_same, rfl⟩, iteF ⟨L, M1, st1, env, (hE.ext e1).ext (.new hp (R1.fresh hp)), R1.new hp, r, st', e, ?_⟩⟩
      cases r with
      | ok a => exact OkE.mono _ _ _ _ _ _ (.new hp (R1.fresh hp)) q
      | ex x => exact PX.mono (.new hp (R1.fresh hp)) q
    | cons d ds =>
      cases e
      refine ⟨true, .inl ⟨vs, .of upd_same, ?_⟩, iteT (OkE.new q R1 v1 hp)⟩
      cases v1; rfl
theorem sx_ife {t : CE} {et : Expr} (ht : ST cf X W t et) (ha : SX cf X W a ea) (hb : SX cf X W b eb) : SX cf X W (.ife t a b) (.IfExp et ea eb pos) := by
  refine PE_mono (pe_ifExp ht ha hb) fun σ H Q h => ?_
  obtain ⟨L, M, st, env, hE, hR, h⟩ := h
  refine ⟨L, M, st, env, hE, hR, (Run.bnd OkE.mono h).mono fun st1 x k M1 H1 e1 R1 => ?_⟩
  have k := k M1 H1 e1
  cases x with
  | true => rw [if_pos rfl] at k; refine iteT ?_; exact ⟨L, M1, st1, env, hE.ext e1, R1, k⟩
  | false => rw [if_neg Bool.false_ne_true] at k; refine iteF ?_; exact ⟨L, M1, st1, env, hE.ext e1, R1, k⟩
/-! argument lists, displays -/
variable {as : CA}
theorem sa_nil : SA cf X W .nil [] := PA_mono pa_nil fun σ H Q ⟨L, M, st, env, hE, hR, h⟩ => Run.ret h M H _ (.refl _ _) hR .nil
theorem sa_cons (hp : plE ea = true) (ha : SX cf X W a ea) (hs : SA cf X W as es) : SA cf X W (.cons a as) (ea :: es) := by
  refine PA_mono (pa_cons ha hs (star_cons hp)) fun σ H Q h => ?_
  obtain ⟨L, M, st, env, hE, hR, h⟩ := h
  refine ⟨L, M, st, env, hE, hR, (Run.bnd OkA.mono h).mono fun st1 x k => OkE.of fun M1 H1 v e1 R1 v1 => ?_⟩
  refine ⟨L, M1, st1, env, hE.ext e1, R1, (Run.bnd OkA.mono (k M1 H1 e1)).mono fun st2 ds k2 M2 H2 vs e2 R2 v2 => ?_⟩
  exact Run.ret (k2 M2 H2 e2) M2 H2 _ (.refl _ _) R2 (.cons (v1.ext e2) v2)
theorem sx_tup {k : Nat} (hs : SA cf X W as es) : SX cf X W (.tup as) (.Tuple es k pos) := by
  refine PE_mono (pe_tup hs) fun σ H Q h => ?_
  obtain ⟨L, M, st, env, hE, hR, h⟩ := h
  refine ⟨L, M, st, env, hE, hR, (Run.bnd OkE.mono h).mono fun st1 ds k M1 H1 vs e1 R1 v1 => ?_⟩
  have k := k M1 H1 e1
  split at k
  · rename_i hl
    exact ⟨by rw [v1.length]; exact len_of hl, fun p hp => OkE.tup (Run.ret k) R1 v1 hp⟩
  · obtain ⟨_, z, _⟩ := Run.lft k
    cases z
theorem sx_lst (hs : SA cf X W as es) : SX cf X W (.lst as) (.List es pos) := by
  refine PE_mono (pe_lst hs) fun σ H Q h => ?_
  obtain ⟨L, M, st, env, hE, hR, h⟩ := h
  refine ⟨L, M, st, env, hE, hR, (Run.bnd OkE.mono h).mono fun st1 ds k M1 H1 vs e1 R1 v1 => ?_⟩
  have k := k M1 H1 e1
  split at k
  · rename_i hl
    exact ⟨by rw [v1.length]; exact len_of hl, fun p hp => OkE.new (Run.ret k) R1 v1 hp⟩
  · obtain ⟨_, z, _⟩ := Run.lft k
    cases z
theorem sx_adopt (ha : SX cf X W a ea) : SX cf X W (.adopt a) ea := by
  refine PE_mono ha fun σ H Q h => ?_
  obtain ⟨L, M, st, env, hE, hR, h⟩ := h
  refine ⟨L, M, st, env, hE, hR, (Run.bnd OkE.mono h).mono fun st1 x k => ?_⟩
  cases x with
  | v d =>
    refine OkE.of fun M1 H1 v e1 R1 v1 => ?_
    obtain ⟨_, z, _⟩ := Run.lft (k M1 H1 e1)
    cases z
  | f ds =>
    intro M1 H1 p vs e1 R1 v1 hp
    obtain ⟨r, st', e, q⟩ := k M1 H1 e1
    cases e
    refine q _ _ _ (.adopt hp (R1.fresh hp)) (R1.adopt hp v1) (.loc ?_)
    rw [← R1.len, List.getElem?_append_right (Nat.le_refl _)]
    simp
/-! subscripts -/
theorem sx_idx (hu : X.A.units + 1 < cLine) {i : CE} {ei : Expr} (hp : plE ei = true) (ha : SX cf X W a ea) (hi : SX cf X W i ei) : SX cf X W (.idx a i) (.Subscript ea ei pos) :=
  PE_mono (pe_ix (ix_idx hu) ha hi (plainIx hp)) fun σ H Q h => lx2 (g := fun x y st => (idxD st x y).map E.v) (fun L M st dx dy x y H e hR q1 q2 he ho => by
    obtain ⟨d, hd, rfl⟩ := Option.map_eq_some_iff.mp he
    exact ⟨L, M, st, dx, dy, d, hR, q1, q2, hd, ho⟩) h
theorem so_no : SO cf X W .no none := PO_mono po_none fun σ H Q ⟨L, M, st, env, hE, hR, h⟩ => Run.ret h M H (.refl _ _) hR
theorem so_so (ha : SX cf X W a ea) : SO cf X W (.so a) (some ea) := by
  refine PO_mono (po_some ha) fun σ H Q h => ?_
  obtain ⟨L, M, st, env, hE, hR, h⟩ := h
  refine ⟨L, M, st, env, hE, hR, (Run.bnd OkO.mono h).mono fun st1 x k => OkE.of fun M1 H1 v e1 R1 v1 => ?_⟩
  have k := k M1 H1 e1
  split at k
  · cases v1
    exact ⟨_, rfl, Run.ret k M1 H1 (.refl _ _) R1⟩
  · obtain ⟨_, z, _⟩ := Run.lft k
    cases z
theorem sx_slc {lo hi : CO} {el eh : Option Expr} {p2 : Pos} (ha : SX cf X W a ea) (hl : SO cf X W lo el) (hh : SO cf X W hi eh) : SX cf X W (.slc a lo hi) (.Subscript ea (.Slice el eh none p2) pos) := by
  refine PE_mono (pe_slice sl_slc ha hl hh) fun σ H Q h => ?_
  obtain ⟨L, M, st, env, hE, hR, h⟩ := h
  refine ⟨L, M, st, env, hE, hR, (Run.bnd OkE.mono h).mono fun st1 x k => OkE.of fun M1 H1 v e1 R1 v1 => ?_⟩
  refine ⟨L, M1, st1, env, hE.ext e1, R1, (Run.bnd OkE.mono (k M1 H1 e1)).mono fun st2 l k2 M2 H2 e2 R2 => ?_⟩
  refine ⟨L, M2, st2, env, (hE.ext e1).ext e2, R2, (Run.bnd OkE.mono (k2 M2 H2 e2)).mono fun st3 u k3 M3 H3 e3 R3 => ?_⟩
  obtain ⟨e, he, ho⟩ := Run.lft (Run.eq (m' := lft (slcD st3 x.val l u)) (k3 M3 H3 e3) rfl)
  exact ⟨L, M3, st3, x.val, e, R3, (v1.ext e2).ext e3, he, ho⟩
end
end Cl

/-! Cl, part F: calls, methods, isinstance. -/
namespace Cl
open PySem L2

def biName : BI → Str
  | .len => "len" | .tuple => "tuple" | .list => "list" | .abs => "abs" | .int => "int" | .max => "max" | .min => "min" | .sum => "sum" | .any => "any" | .all => "all" | .sorted => "sorted"
theorem boot_bi : ∀ f : BI, bootBuiltins (biName f) = some (biT f) := by intro f; cases f <;> decide +kernel
theorem name_bi : ∀ f : BI, biName f ≠ "__name__" := by intro f; cases f <;> decide
theorem debug_bi : ∀ f : BI, (biName f == ("__debug__" : Str)) = false := by intro f; cases f <;> decide
section
variable {cf : CF} {X : Cx} {W : WX} {a b c : CE} {ea eb ec : Expr} {pos p : Pos} {es : List Expr} {as : CA}
theorem sx_bi {f : BI} (hc : X.calm = true) (hg : Gl X (biName f)) (hm : X.mg (biName f) = none) (hp : (ea :: es).all plE = true) (hs : SA cf X W as (ea :: es)) :
    SX cf X W (.bi f as) (.Call (.Name (biName f) p) (ea :: es) [] pos) := by
  simp only [List.all_cons, Bool.and_eq_true] at hp
  have key : PE X (.Call (.Name (biName f) p) (ea :: es) [] pos) (tCB (rBi X.K f) (LA X.K X.mg W (evA cf as))) := by
    have hv := boot_bi f
    have hn := name_bi f
    have hd := debug_bi f
    have hcall := call_bi (X := X) hc f
    cases hT : biT f with
    | builtin id =>
      rw [hT] at hv hcall
      exact pe_callB hcall hg hm hv hs hn hd (star_cons hp.1) (star_none hp.2)
    | type T =>
      rw [hT] at hv hcall
      exact pe_callTy hcall hg hm hv hs hn hd (star_cons hp.1) (star_none hp.2)
    | _ => cases f <;> cases hT
  refine PE_mono key fun σ H Q h => ?_
  obtain ⟨L, M, st, env, hE, hR, h⟩ := h
  refine ⟨L, M, st, env, hE, hR, (Run.bnd OkE.mono h).mono fun st1 ds k M1 H1 vs e1 R1 v1 => ?_⟩
  obtain ⟨e, he, ho⟩ := Run.lft (Run.eq (m' := lft (biD st1 f ds)) (k M1 H1 e1) rfl)
  exact ⟨L, M1, st1, ds, e, R1, v1, he, ho⟩

/-! ### isinstance -/
def tyName : TyN → String
  | .int => "int" | .bool => "bool" | .str => "str" | .list => "list" | .tuple => "tuple"
theorem boot_ty : ∀ t : TyN, bootBuiltins (Str.ofString (tyName t)) = some (.type (tyName t)) := by intro t; cases t <;> decide +kernel
theorem name_ty : ∀ t : TyN, Str.ofString (tyName t) ≠ "__name__" := by intro t; cases t <;> decide +kernel
theorem debug_ty : ∀ t : TyN, (Str.ofString (tyName t) == ("__debug__" : Str)) = false := by intro t; cases t <;> decide +kernel
def tyOf : D → TyN → Prop := fun _ _ => True
theorem kit_is : ∀ a b : TyN, kitB (tyName a) (tyName b) = some (isiOne a b) := by intro a b; cases a <;> cases b <;> decide +kernel
theorem kit_none : ∀ b : TyN, kitB "NoneType" (tyName b) = some false := by intro b; cases b <;> decide +kernel
theorem tyD_ty {K : PySem.W.Frag} {L M : List Addr} {H : Hp} {st : Store} {v : V} {d : D} {t : TyN} (r : Rel K L M st H) (q : Val K L M H v d) (e : tyD st d = some t) : TyX K H v (.type (tyName t)) := by
  cases q with
  | non => cases e
  | bl b => cases e; exact .base (.bl b)
  | int i => cases e; exact .base (.int i)
  | str s => cases e; exact .base (.str s)
  | tup h _ =>
    cases e
    exact .base (.tup h.1)
  | lst h _ => cases e; exact .base (.lst h.1)
  | rol h _ => cases e
  | loc h =>
    simp only [tyD] at e
    split at e
    · rename_i xs hx
      cases e
      obtain ⟨vs, h1, _⟩ := r.obj _ _ _ h hx
      exact .base (.lst h1)
    · cases e
theorem isi_kit {K : PySem.W.Frag} {L M : List Addr} {H : Hp} {st : Store} {v : V} {d : D} {ts : List TyN} {b : Bool} (r : Rel K L M st H) (q : Val K L M H v d) (e : isiD st d ts = some b) :
    ∃ t, TyX K H v t ∧ PySem.W.kitAny K t (ts.map fun t => .type (tyName t)) = some b ∧ ∀ u, ts = [u] → PySem.W.kitOne K t (.type (tyName u)) = some b := by
  have any : ∀ (T : String) (f : TyN → Bool), (∀ u, kitB T (tyName u) = some (f u)) → ∀ l : List TyN, PySem.W.kitAny K (.type T) (l.map fun t => .type (tyName t)) = some (l.any f) := by
    intro T f hf l
    induction l with
    | nil => exact kitAny_nil
    | cons u l ih =>
      rw [List.map_cons, List.any_cons]
      refine kitAny_cons (kit_ty (hf u)) (fun h => ?_) (fun h => ?_)
      · rw [h]; exact ih
      · rw [h]; rfl
  unfold isiD at e
  split at e
  · cases e; cases q
    refine ⟨.type "NoneType", .base .non, ?_, fun u hu => kit_ty (kit_none u)⟩
    have := any "NoneType" (fun _ => false) kit_none ts
    rw [this]
    simp
  · split at e
    · rename_i t ht
      cases e
      refine ⟨.type (tyName t), tyD_ty r q ht, any _ _ (kit_is t) ts, fun u hu => ?_⟩
      subst hu
      rw [kit_ty (kit_is t u)]
      simp
    · cases e
theorem sx_isi {t : TyN} (hg : Gl X "isinstance") (hm : X.mg "isinstance" = none) (hgt : Gl X (Str.ofString (tyName t))) (hmt : X.mg (Str.ofString (tyName t)) = none) (hp : plE ea = true) (ha : SX cf X W a ea) {p2 : Pos} :
    SX cf X W (.isi a [t]) (.Call (.Name "isinstance" p) [ea, .Name (Str.ofString (tyName t)) p2] [] pos) := by
  refine PE_mono (pe_callB call_isi hg hm PyProof.Rows.boot_isinstance (pa_cons ha (pa_cons (pe_bltn (v := .ty (tyName t)) hgt hmt (boot_ty t) rfl (name_ty t) (debug_ty t)) pa_nil rfl) (star_cons hp)) (by decide) (by decide) (star_cons hp) (star_none (by simp [plE]))) fun σ H Q h => ?_
  refine lx1 (r := fun x H Q => rIsi X.K [x, .ty (tyName t)] H Q) (g := fun d st => (isiD st d [t]).map fun b => .v (.bl b)) (fun L M st dx x H e hR q he ho => ?_) h
  obtain ⟨b, hb, rfl⟩ := Option.map_eq_some_iff.mp he
  obtain ⟨ty, h1, h2, h3⟩ := isi_kit hR q hb
  exact ⟨x, .ty (tyName t), ty, _, b, rfl, .ty _, h1, h3 t rfl, ho.bl hR⟩
theorem sx_isi2 {t u : TyN} (hg : Gl X "isinstance") (hm : X.mg "isinstance" = none) (hgt : Gl X (Str.ofString (tyName t))) (hmt : X.mg (Str.ofString (tyName t)) = none)
    (hgu : Gl X (Str.ofString (tyName u))) (hmu : X.mg (Str.ofString (tyName u)) = none) (hp : plE ea = true) (ha : SX cf X W a ea) {p2 p3 p4 : Pos} {k : Nat} :
    SX cf X W (.isi a [t, u]) (.Call (.Name "isinstance" p) [ea, .Tuple [.Name (Str.ofString (tyName t)) p2, .Name (Str.ofString (tyName u)) p3] k p4] [] pos) := by
  refine PE_mono (pe_callB call_isiT hg hm PyProof.Rows.boot_isinstance (pa_cons ha (pa_cons (pe_tup (pa_cons (pe_bltn (v := .ty (tyName t)) hgt hmt (boot_ty t) rfl (name_ty t) (debug_ty t)) (pa_cons (pe_bltn (v := .ty (tyName u)) hgu hmu (boot_ty u) rfl (name_ty u) (debug_ty u)) pa_nil rfl) rfl)) pa_nil rfl) (star_cons hp)) (by decide) (by decide) (star_cons hp) (star_none (by simp [plE]))) fun σ H Q h => ?_
  refine lx1 (r := fun x H Q => (2 ≤ sizeLine ∧ ∀ T, H T = none → rIsiT X.K [x, .ref T] (upd H T (.tup [.ty (tyName t), .ty (tyName u)])) Q)) (g := fun d st => (isiD st d [t, u]).map fun b => .v (.bl b)) (fun L M st dx x H e hR q he ho => ?_) h
  obtain ⟨b, hb, rfl⟩ := Option.map_eq_some_iff.mp he
  refine ⟨by decide, fun T hT => ?_⟩
  have hx := Ext.new (o := HO.tup [.ty (tyName t), .ty (tyName u)]) hT (hR.fresh hT)
  obtain ⟨ty, h1, h2, h3⟩ := isi_kit (hR.new hT) (q.ext hx) hb
  exact ⟨x, T, _, ty, _, b, rfl, upd_same, .cons (.ty _) (.cons (.ty _) .nil), h1, h2, OkE.bl (OkE.mono _ _ _ _ _ _ hx ho) (hR.new hT)⟩

/-! ### calls of the program's own defs -/
/-- what a def promises: its clean program's end -/
def spF (K : PySem.W.Frag) (mg : Str → Option Value) (n : Nat) (g : List D → Cl.M D) : Sp := fun vs H Q E => ∃ L M st ds, Rel K L M st H ∧ Vls K L M H vs ds ∧ ds.length = n ∧ ∃ r st', g ds st = some (r, st') ∧ match r with
  | .ok d => OkD K L Q M H st' d
  | .ex x => ∀ M' H' cls dd, Ext M H M' H' → Rel K L M' st' H' → XVal K mg L M' H' cls dd x → E cls dd H'
structure FnIn (X : Cx) (k : Nat) (cf : CF) (f : Str) : Prop where
  ex : ∃ (a : Addr) (fd : FuncData) (ps : List Str), X.mg f = some (.ref a) ∧ PySem.W.keepIn X.K (.ref a) = true ∧ Binds X.K fd ps [] ∧
    FnOk X.prog X.w X.K X.mg X.base (L2.CX X.prog X.w) k a fd ps (spF X.K X.mg ps.length (cf f)) ∧ ∀ ds st r, cf f ds st = some r → ds.length = ps.length
theorem sx_cal {f : Str} {k : Nat} (tk : Takes X W) (hr : Room k X.A) (F : FnIn X k cf f) (hg : Gl X f) (hd : (f == ("__debug__" : Str)) = false) (hp : (ea :: es).all plE = true) (hs : SA cf X W as (ea :: es)) :
    SX cf X W (.cal f as) (.Call (.Name f p) (ea :: es) [] pos) := by
  simp only [List.all_cons, Bool.and_eq_true] at hp
  obtain ⟨a, fd, ps, hm, hk, hb, G, hl⟩ := F.ex
  refine PE_mono (pe_callS (E := WE W) G hr hg hm hk hb (passAt tk) hs hd (star_cons hp.1) (star_none hp.2)) fun σ H Q h => ?_
  obtain ⟨L, M, st, env, hE, hR, h⟩ := h
  refine ⟨L, M, st, env, hE, hR, (Run.bnd OkE.mono h).mono fun st1 ds k M1 H1 vs e1 R1 v1 => ?_⟩
  obtain ⟨r, st', e, q⟩ := Run.bnd OkE.mono (k M1 H1 e1)
  refine ⟨L, M1, st1, ds, R1, v1, hl ds st1 _ e, r, st', e, ?_⟩
  cases r with
  | ok d => exact fun M2 H2 v e2 R2 v2 => OkE.val (Run.ret (q M2 H2 e2)) R2 v2
  | ex x => exact q

/-! ### methods -/
def metId : MI → String
  | .append => "list.append" | .pop0 => "list.pop" | .pop => "list.pop" | .extend => "list.extend" | .index => "list.index"
def rMet (K : PySem.W.Frag) (m : MI) : V → List V → Hp → VK → Prop := fun x xs H Q => ∃ L M st dx ds d st', Rel K L M st H ∧ Val K L M H x dx ∧ Vls K L M H xs ds ∧ metD st m dx ds = some (d, st') ∧ OkE K L Q M H st' (.v d)
theorem Vls.drop1 {K : PySem.W.Frag} {L M : List Addr} {H : Hp} {v : V} {d : D} {vs : List V} {ds : List D} (h : Vls K L M H (v :: vs) (d :: ds)) : Val K L M H v d ∧ Vls K L M H vs ds := by
  cases h with
  | cons h hs => exact ⟨h, hs⟩
theorem mt_met : ∀ m : MI, MtR X (metId m) (rMet X.K m) := by
  intro m pins s σ H x xs v us Q I rx rxs h
  obtain ⟨L, M, st, dx, ds, d, st', hR, qx, qs, he, ho⟩ := h
  unfold metD at he
  split at he
  · rename_i n
    cases qx with
    | @loc a _ hn =>
    split at he
    · rename_i ys hy
      obtain ⟨vs, h1, h2⟩ := hR.obj _ _ _ hn hy
      split at he
      · split at he
        · rename_i hl
          cases he
          obtain ⟨w, rfl, qw⟩ := vls1 qs
          refine mt_append pins s σ H _ _ v us Q I rx rxs ⟨a, vs, w, rfl, rfl, h1, by rw [h2.length]; exact len_lt hl, ?_⟩
          exact ho M _ _ (.write (List.mem_of_getElem? hn)) (hR.writeL hn (h2.append (.cons qw .nil))) .non
        · cases he
      · split at he
        · cases he
          obtain ⟨w, rfl, qw⟩ := vls1 qs
          cases qw
          cases h2 with
          | @cons v0 d0 vs0 ds0 h0 hs0 =>
            refine mt_popAt pins s σ H _ _ v us Q I rx rxs ⟨a, v0 :: vs0, 0, 0, v0, rfl, rfl, h1, by decide, by decide, ?_, rfl, ?_⟩
            · unfold seqIndex?
              simp
            · exact ho M _ _ (.write (List.mem_of_getElem? hn)) (hR.writeL hn hs0) (h0.ext (.write (List.mem_of_getElem? hn)))
        · cases he
      · split at he
        · rename_i z hz
          cases he
          cases qs
          rw [List.getLast?_eq_getElem?] at hz
          obtain ⟨w, hw, qw⟩ := h2.get hz
          refine mt_pop pins s σ H _ _ v us Q I rx rxs ⟨a, vs, w, rfl, rfl, h1, by rw [h2.length]; exact hw, ?_⟩
          exact ho M _ _ (.write (List.mem_of_getElem? hn)) (hR.writeL hn h2.dropLast) (qw.ext (.write (List.mem_of_getElem? hn)))
        · cases he
      · split at he
        · rename_i zs hz
          split at he
          · rename_i hl
            cases he
            obtain ⟨w, rfl, qw⟩ := vls1 qs
            obtain ⟨b, us', rfl, hb, qb⟩ := rdT_at hR qw hz
            refine mt_extend pins s σ H _ _ v us Q I rx rxs ⟨a, b, vs, us', rfl, rfl, h1, hb, by rw [h2.length, qb.length]; exact len_of hl, ?_⟩
            exact ho M _ _ (.write (List.mem_of_getElem? hn)) (hR.writeL hn (h2.append qb)) .non
          · cases he
        · cases he
      · cases he
    · cases he
  · cases he
end
end Cl

/-! Cl, part G: methods by their syntax, targets, what is walked, comprehensions. -/
namespace Cl
open PySem L2
section
variable {cf : CF} {X : Cx} {W : WX} {a b c : CE} {ea eb ec eo : Expr} {pos p cpos : Pos} {es : List Expr} {as : CA}
/-- the readings of a method's call -/
theorem lx_met {m : MI} {o : CE} {σ : St} {H : Hp} {Q : VK} {t : TA} (ht : ∀ σ H Q, LA X.K X.mg W (evA cf as) σ H Q → t σ H Q) (h : LX X.K X.mg W (evX cf (.met m o as)) σ H Q) :
    tBM X.K "list" (rMet X.K m) (LX X.K X.mg W (evX cf o)) t σ H Q := by
  obtain ⟨L, M, st, env, hE, hR, h⟩ := h
  refine ⟨L, M, st, env, hE, hR, (Run.bnd OkE.mono h).mono fun st1 x k => OkE.of fun M1 H1 v e1 R1 v1 => ?_⟩
  obtain ⟨r, st', e, q⟩ := k M1 H1 e1
  dsimp only at e
  split at e
  · rename_i xs hx
    obtain ⟨a, vs, rfl, h1, h2⟩ := rdT_at R1 v1 hx
    refine ⟨.inl ⟨rfl, vs, .of h1⟩, ht _ _ _ ⟨L, M1, st1, env, hE.ext e1, R1, (Run.bnd OkE.mono ⟨r, st', e, q⟩).mono fun st2 ds k2 M2 H2 us e2 R2 v2 => ?_⟩⟩
    obtain ⟨r2, st3, e3, q3⟩ := k2 M2 H2 e2
    dsimp only at e3
    split at e3
    · rename_i d s2 hd
      cases e3
      exact ⟨L, M2, st2, x.val, ds, d, st3, R2, v1.ext e2, v2, hd, q3⟩
    · cases e3
  · cases e
theorem few1 {env : PySem.Env} (hp : plE ea = true) : ((backTo cpos (starEach [ea] env)).all (fun x => !x.1) && (backToKw cpos (keywordEach [] env)).all (fun x => x.1.isSome)
      && decide (([ea] : List Expr).length + ([] : List Keyword).length + (if ([] : List Keyword).isEmpty then 0 else 1) < 30)) = true := by
  rw [star_cons hp]; rfl
theorem sx_append {o : CE} {apos : Pos} (ho : plO eo = true) (hp : plE ea = true) (hl : (apos.endLine == cpos.line) = true) (hO : SX cf X W o eo) (hs : SA cf X W as [ea]) :
    SX cf X W (.met .append o as) (.Call (.Attribute eo "append" apos) [ea] [] cpos) :=
  PE_mono (pe_bm PySem.F.plainAttrs_list PySem.F.slot_list_append PySem.F.type_list_append (mt_met .append) hO hs (baseO ho) (few1 hp) hl (star_cons hp) (star_none rfl)) fun σ H Q h => lx_met (fun _ _ _ z => z) h
theorem sx_pop0 {o : CE} {apos : Pos} (ho : plO eo = true) (hp : plE ea = true) (hl : (apos.endLine == cpos.line) = true) (hO : SX cf X W o eo) (hs : SA cf X W as [ea]) :
    SX cf X W (.met .pop0 o as) (.Call (.Attribute eo "pop" apos) [ea] [] cpos) :=
  PE_mono (pe_bm PySem.F.plainAttrs_list PySem.F.slot_list_pop PySem.F.type_list_pop (mt_met .pop0) hO hs (baseO ho) (few1 hp) hl (star_cons hp) (star_none rfl)) fun σ H Q h => lx_met (fun _ _ _ z => z) h
theorem sx_extend {o : CE} {apos : Pos} (ho : plO eo = true) (hp : plE ea = true) (hl : (apos.endLine == cpos.line) = true) (hO : SX cf X W o eo) (hs : SA cf X W as [ea]) :
    SX cf X W (.met .extend o as) (.Call (.Attribute eo "extend" apos) [ea] [] cpos) :=
  PE_mono (pe_bm PySem.F.plainAttrs_list PySem.F.slot_list_extend PySem.F.type_list_extend (mt_met .extend) hO hs (baseO ho) (few1 hp) hl (star_cons hp) (star_none rfl)) fun σ H Q h => lx_met (fun _ _ _ z => z) h
theorem sx_pop {o : CE} {apos : Pos} (ho : plO eo = true) (hl : (apos.endLine == cpos.line) = true) (hO : SX cf X W o eo) :
    SX cf X W (.met .pop o .nil) (.Call (.Attribute eo "pop" apos) [] [] cpos) :=
  PE_mono (pe_bm0 PySem.F.plainAttrs_list PySem.F.slot_list_pop PySem.F.type_list_pop (mt_met .pop) hO (baseO ho) hl) fun σ H Q h => by
    refine lx_met (t := fun σ H Q => Q [] H) (fun σ H Q z => ?_) h
    obtain ⟨L, M, st, env, hE, hR, h⟩ := z
    exact Run.ret h M H _ (.refl _ _) hR .nil

/-! ### targets -/
mutual
def namesT : CT → List Nat
  | .nm i => [i]
  | .tup ts => namesTs ts
  | .sub _ _ => []
def namesTs : CTs → List Nat
  | .nil => []
  | .cons t ts => namesT t ++ namesTs ts
def lenTs : CTs → Nat
  | .nil => 0
  | .cons _ ts => lenTs ts + 1
end
theorem wipe_set (x : Option V) : ∀ (vs : List Nat) (σ : St) (i : Nat), i ∈ vs → wipe (σ.set i x) vs = wipe σ vs := by
  have key : ∀ (vs : List Nat) (σ : St) (i : Nat), i ∉ vs → wipe (σ.set i x) vs = (wipe σ vs).set i x := by
    intro vs
    induction vs with
    | nil => intro σ i _; rfl
    | cons v vs ih =>
      intro σ i h
      unfold wipe
      rw [ih σ i fun z => h (List.mem_cons_of_mem _ z)]
      exact List.set_comm _ _ (fun e => h (by rw [e]; exact List.mem_cons_self))
  intro vs
  induction vs with
  | nil => intro σ i h; cases h
  | cons v vs ih =>
    intro σ i h
    unfold wipe
    by_cases hi : i ∈ vs
    · rw [ih σ i hi]
    · rw [key vs σ i hi]
      have e : i = v := (List.mem_cons.mp h).elim id fun z => absurd z hi
      subst e
      rw [List.set_set]
/-- a target's reading: it ends well; only its own names are stored -/
def LGt (K : PySem.W.Frag) (ns : List Nat) (f : D → Env → Cl.M Env) : TG := fun v σ H Q => ∃ L M st env d env' st', RelE K L M H σ env ∧ Rel K L M st H ∧ Val K L M H v d ∧ f d env st = some (.ok env', st') ∧
  ∀ M' H' σ', Ext M H M' H' → Rel K L M' st' H' → RelE K L M' H' σ' env' → (∀ vs, (∀ i ∈ ns, i ∈ vs) → wipe σ' vs = wipe σ vs) → Q σ' H'
def LGts (K : PySem.W.Frag) (ns : List Nat) (f : List D → Env → Cl.M Env) : TGs := fun vs σ H Q => ∃ L M st env ds env' st', RelE K L M H σ env ∧ Rel K L M st H ∧ Vls K L M H vs ds ∧ f ds env st = some (.ok env', st') ∧
  ∀ M' H' σ', Ext M H M' H' → Rel K L M' st' H' → RelE K L M' H' σ' env' → (∀ vs, (∀ i ∈ ns, i ∈ vs) → wipe σ' vs = wipe σ vs) → Q σ' H'
theorem PG_mono {e : Expr} {t t' : TG} (h : PG X e t) (m : ∀ v σ H Q, t' v σ H Q → t v σ H Q) : PG X e t' := ⟨fun pins s σ H v u Q I r q => h.run pins s σ H v u Q I r (m v σ H Q q)⟩
theorem PGs_mono {e : List Expr} {t t' : TGs} (h : PGs X e t) (m : ∀ v σ H Q, t' v σ H Q → t v σ H Q) : PGs X e t' := ⟨fun pins s σ H v u Q I r q => h.run pins s σ H v u Q I r (m v σ H Q q)⟩
abbrev SG (cf : CF) (X : Cx) (t : CT) (e : Expr) : Prop := PG X e (LGt X.K (namesT t) (bdT cf t))
abbrev SGs (cf : CF) (X : Cx) (t : CTs) (e : List Expr) : Prop := PGs X e (LGts X.K (namesTs t) (bdTs cf t))
theorem sg_nm {i : Nat} {x : Str} (hN : X.N.Nodup) (hi : X.N[i]? = some x) (hx : Loc X.env.scope x) (hf : X.fn x = true ∨ X.env.scope.names.lookup x = some .local) : SG cf X (.nm i) (.Name x pos) := by
  refine PG_mono (pg_name hN hi hx hf) fun v σ H Q h => ?_
  obtain ⟨L, M, st, env, d, env', st', hE, hR, q, e, k⟩ := h
  simp only [bdT] at e
  split at e
  · cases e
    exact k M H _ (.refl _ _) hR (hE.set q) fun vs hv => wipe_set _ vs σ i (hv i (by simp [namesT]))
  · cases e
theorem bdTs_len : ∀ (ts : CTs) (ds : List D) (env env' : Env) (st st' : Store), bdTs cf ts ds env st = some (.ok env', st') → ds.length = lenTs ts
  | .nil, [], _, _, _, _, _ => rfl
  | .nil, _ :: _, _, _, _, _, h => by simp [bdTs, lft] at h
  | .cons _ _, [], _, _, _, _, h => by simp [bdTs, lft] at h
  | .cons t ts, d :: ds, env, env', st, st', h => by
    simp only [bdTs, Cl.bnd] at h
    split at h
    · rename_i e1 st1 _
      show ds.length + 1 = lenTs ts + 1
      rw [bdTs_len ts ds e1 env' st1 st' h]
    · cases h
    · cases h
theorem assignEach_len {env : PySem.Env} : ∀ es : List Expr, (assignEach es env).length = es.length
  | [] => rfl
  | e :: es => by
    have ih := assignEach_len (env := env) es
    cases e <;> simp [assignEach, ih]
theorem assignEach_plain {env : PySem.Env} : ∀ es : List Expr, es.all plE = true → (assignEach es env).findIdx? (·.1) = none
  | [], _ => rfl
  | e :: es, h => by
    simp only [List.all_cons, Bool.and_eq_true] at h
    have ih := assignEach_plain (env := env) es h.2
    cases e <;> first | (cases h.1; done) | simp_all [assignEach, List.findIdx?_cons]
theorem assignEach_cons {env : PySem.Env} (hp : plE ea = true) : (assignEach (ea :: es) env).map (·.2) = assign ea env :: (assignEach es env).map (·.2) := by
  cases ea <;> first | rfl | cases hp
theorem sgs_nil : SGs cf X .nil [] := PGs_mono pgs_nil fun v σ H Q h => by
  obtain ⟨L, M, st, env, ds, env', st', hE, hR, q, e, k⟩ := h
  cases ds with
  | nil =>
    cases q
    cases e
    exact ⟨rfl, k M H σ (.refl _ _) hR hE fun _ _ => rfl⟩
  | cons d ds => simp [bdTs, lft] at e
theorem sgs_cons {t : CT} {ts : CTs} (hp : plE ea = true) (ht : SG cf X t ea) (hts : SGs cf X ts es) : SGs cf X (.cons t ts) (ea :: es) := PGs_mono (pgs_cons ht hts (assignEach_cons hp)) fun v σ H Q h => by
  obtain ⟨L, M, st, env, ds, env', st', hE, hR, q, e, k⟩ := h
  cases ds with
  | nil => simp [bdTs, lft] at e
  | cons d ds =>
    cases q with
    | cons q qs =>
      simp only [bdTs, Cl.bnd] at e
      split at e
      · rename_i e1 st1 h1
        refine ⟨_, _, rfl, L, M, st, env, d, e1, st1, hE, hR, q, h1, fun M1 H1 σ1 x1 R1 E1 w1 => ?_⟩
        refine ⟨L, M1, st1, e1, ds, env', st', E1, R1, qs.ext x1, e, fun M2 H2 σ2 x2 R2 E2 w2 => ?_⟩
        refine k M2 H2 σ2 (x1.trans x2) R2 E2 fun vs hv => ?_
        rw [w2 vs fun i hi => hv i (by simp [namesTs, hi]), w1 vs fun i hi => hv i (by simp [namesTs, hi])]
      · cases e
      · cases e
theorem PG_or {e : Expr} {t t' : TG} (h : PG X e t) (h' : PG X e t') : PG X e (fun v σ H Q => t v σ H Q ∨ t' v σ H Q) := ⟨fun pins s σ H v u Q I r q => q.elim (h.run pins s σ H v u Q I r) (h'.run pins s σ H v u Q I r)⟩
theorem sg_tup {ts : CTs} {k : Nat} (hc : X.calm = true) (hp : es.all plE = true) (hn : es.length = lenTs ts) (hts : SGs cf X ts es) : SG cf X (.tup ts) (.Tuple es k pos) := by
  refine PG_mono (PG_or (pg_tup (n := lenTs ts) hc hts (by rw [assignEach_len]; exact hn) (assignEach_plain es hp)) (pg_lst (n := lenTs ts) hc hts (by rw [assignEach_len]; exact hn) (assignEach_plain es hp))) fun v σ H Q h => ?_
  obtain ⟨L, M, st, env, d, env', st', hE, hR, q, e, k⟩ := h
  simp only [bdT] at e
  split at e
  · rename_i ds
    cases q with
    | @tup a vs _ h1 q1 =>
      exact .inl ⟨a, vs, rfl, h1.sq, by rw [q1.length]; exact bdTs_len ts ds env env' st st' e, L, M, st, env, ds, env', st', hE, hR, q1, e, k⟩
  · rename_i ds
    cases q with
    | @lst a vs _ h1 q1 =>
      exact .inr ⟨a, vs, rfl, h1.sq, by rw [q1.length]; exact bdTs_len ts ds env env' st st' e, L, M, st, env, ds, env', st', hE, hR, q1, e, k⟩
  · cases e
def rSetC (K : PySem.W.Frag) : TSet := fun o i v H Q => ∃ L M st dx dy dv st', Rel K L M st H ∧ Val K L M H o dx ∧ Val K L M H i dy ∧ Val K L M H v dv ∧ setD st dx dy dv = some st' ∧ ∀ M' H', Ext M H M' H' → Rel K L M' st' H' → Q H'
theorem set_C (hu : X.A.units + 1 < cLine) : PSet X (rSetC X.K) := by
  intro pins s σ H o i v ov iv u Q I r1 r2 r3 h
  obtain ⟨L, M, st, dx, dy, dv, st', hR, qx, qy, qv, he, k⟩ := h
  unfold setD at he
  split at he
  · rename_i n ds
    cases qx with
    | @loc a _ hn =>
    cases qy with
    | @tup b ws _ h1 q1 =>
    split at he
    · rename_i kvs hx
      split at he
      · rename_i kk hk
        split at he
        · rename_i hl
          cases he
          obtain ⟨ks, h2, h3⟩ := hR.obj _ _ _ hn hx
          have e1 := keyD_vls hk q1
          cases (show ov = Value.ref a from r1)
          have hm := List.mem_of_getElem? hn
          refine d_setItem hu I (.t h2 (by rw [← e1]; exact h1.1) (by
            have := len_lt (n := ks.length) (by rw [h3.len]; simp only [okLen, decide_eq_true_eq] at hl ⊢; omega)
            exact this)) r2 r3 fun s' I' => ⟨_, I', k _ _ (.write hm) (hR.write (o' := .dT (pK kvs kk dv)) hn ⟨_, upd_same, (h3.put qv).ext (.write hm)⟩)⟩
        · cases he
      · cases he
    · cases he
  · rename_i n z
    cases qx with
    | @loc a _ hn =>
    cases qy
    split at he
    · rename_i xs hx
      split at he
      · rename_i j hj
        cases he
        obtain ⟨vs, h1, h2⟩ := hR.obj _ _ _ hn hx
        exact set_list pins s σ H _ _ v ov iv u Q I r1 r2 r3 ⟨a, vs, z, j, rfl, rfl, h1, by rw [h2.length]; exact hj, k M _ (.write (List.mem_of_getElem? hn)) (hR.writeL hn (h2.set j qv))⟩
      · cases he
    · cases he
  · cases he
theorem assign_sub {env : PySem.Env} (hp : plE eb = true) (v : Value) : assign (.Subscript ea eb pos) env v = (do
      let ov ← holding [v] (eval ea env)
      let iv ← holding [v, ov] (eval eb env)
      standAt pos
      holding [v, ov, iv] (setItem ov iv v)
      release [v, ov, iv] []) := by
  cases eb <;> first | rfl | cases hp
theorem sg_sub (hu : X.A.units + 1 < cLine) (hp : plE eb = true) (ha : SX cf X W a ea) (hb : SX cf X W b eb) : SG cf X (.sub a b) (.Subscript ea eb pos) := by
  refine PG_mono (pg_sub ha hb (set_C hu) (assign_sub hp)) fun v σ H Q h => ?_
  obtain ⟨L, M, st, env, d, env', st', hE, hR, q, e, k⟩ := h
  have e' : bnd (evX cf a env) (fun x => bnd (evX cf b env) fun y => fun st => match setD st x.val y.val d with | some st1 => some (.ok env, st1) | none => none) st = some (.ok env', st') := e
  simp only [Cl.bnd] at e'
  split at e'
  · rename_i x st1 h1
    refine ⟨L, M, st, env, hE, hR, .ok x, st1, h1, OkE.of fun M1 H1 w1 x1 R1 v1 => ?_⟩
    split at e'
    · rename_i y st2 h2
      refine ⟨L, M1, st1, env, hE.ext x1, R1, .ok y, st2, h2, OkE.of fun M2 H2 w2 x2 R2 v2 => ?_⟩
      split at e'
      · rename_i st3 h3
        cases e'
        exact ⟨L, M2, st2, x.val, y.val, d, st', R2, v1.ext x2, v2, (q.ext x1).ext x2, h3, fun M3 H3 x3 R3 => k M3 H3 σ ((x1.trans x2).trans x3) R3 (((hE.ext x1).ext x2).ext x3) fun _ _ => rfl⟩
      · cases e'
    · cases e'
    · cases e'
  · cases e'
  · cases e'
end
end Cl

/-! Cl, part H: enumerate and zip of lists and tuples in any mix. -/
namespace Cl
open PySem PySem.Spec PyProof.Rows L2
/-- a tuple, a list -/
inductive SK where
  | t | l
def SqK (K : PySem.W.Frag) (H : Hp) (a : Addr) : SK → List V → Prop
  | .t, xs => SqT K H a xs
  | .l, xs => SqL K H a xs
def ItrK (h : Heap) (it a : Addr) (i : Nat) : SK → Prop
  | .t => h.IsTupleIter it a i
  | .l => h.IsListIter it a i
def IsK (h : Heap) (a : Addr) (items : Array Value) : SK → Prop
  | .t => h.IsTuple a items
  | .l => h.IsList a items
def itObj (a : Addr) : SK → Obj
  | .t => { cls := .type "tuple_iterator", data := .fields #[.ref a, .int 0 0] }
  | .l => { cls := .type "list_iterator", data := .fields #[.ref a, .int 0 0] }
section
variable {X : Cx} {pins : List (Addr × Obj)} {σ : L2.St} {H : Hp} {s : Shared} {a : Addr} {xs ys : List V} {k : SK}
theorem Inv_seqK (I : Inv X pins σ H s) (h : SqK X.K H a k xs) : ∃ its : List Value, Vals xs its ∧ IsK s.heap a its.toArray k ∧ xs.length ≤ sizeLine := by
  cases k with
  | t => obtain ⟨its, r, p, z⟩ := I.tuple h; exact ⟨its, r, p, z⟩
  | l => obtain ⟨its, r, p, z⟩ := I.list h; exact ⟨its, r, p.isList, z⟩
theorem Inv_seqK_inj (I : Inv X pins σ H s) (h : SqK X.K H a k xs) (h' : SqK X.K H a k ys) : xs = ys := by
  cases k with
  | t => exact I.tuple_inj h h'
  | l => exact I.list_inj h h'
end
theorem IsK.lt {h : Heap} {a : Addr} {items : Array Value} {k : SK} (p : IsK h a items k) : a < h.objs.size := by
  cases k with
  | t => obtain ⟨o, e, _⟩ := (show h.IsTuple a items from p); exact Heap.lt_size e
  | l => obtain ⟨o, e, _⟩ := (show h.IsList a items from p); exact Heap.lt_size e
theorem ItrK.lt {h : Heap} {it a : Addr} {i : Nat} {k : SK} (p : ItrK h it a i k) : it < h.objs.size := by
  cases k with
  | t => obtain ⟨o, e, _⟩ := (show h.IsTupleIter it a i from p); exact Heap.lt_size e
  | l => obtain ⟨o, e, _⟩ := (show h.IsListIter it a i from p); exact Heap.lt_size e
theorem ItrK.obj {h : Heap} {it a : Addr} {i : Nat} {k : SK} (p : ItrK h it a i k) : ∃ o, h.get? it = some o ∧ ∀ v, o.data ≠ .cell v := by
  cases k with
  | t => obtain ⟨o, e, c, d⟩ := (show h.IsTupleIter it a i from p); exact ⟨o, e, fun v q => by rw [d] at q; cases q⟩
  | l => obtain ⟨o, e, c, d⟩ := (show h.IsListIter it a i from p); exact ⟨o, e, fun v q => by rw [d] at q; cases q⟩
theorem ItrK.at' {h h' : Heap} {it a : Addr} {i : Nat} {k : SK} (p : ItrK h it a i k) (q : ∀ o, h.get? it = some o → h'.get? it = some o) : ItrK h' it a i k := by
  cases k with
  | t => exact Heap.IsTupleIter.at p q
  | l => exact Heap.IsListIter.at p q
theorem ItrK.new {h : Heap} {it a : Addr} {k : SK} (e : h.get? it = some (itObj a k)) : ItrK h it a 0 k := by
  cases k with
  | t => exact ⟨_, e, rfl, rfl⟩
  | l => exact ⟨_, e, rfl, rfl⟩
theorem drawsK {prog : Program} {w : World} {A : Around} (hh : A.handled = none) (it a : Addr) (hne : a ≠ it) (items : Array Value) (k : SK) :
    Draws prog w A it [it, a] items.size (fun i v => items[i]? = some v) (fun i h => ItrK h it a i k ∧ IsK h a items k) := by
  cases k with
  | t => exact Draws.tuple hh it a hne items
  | l => exact Draws.list hh it a hne items
theorem beginsK (a : Addr) (items : Array Value) (k : SK) : Begins (.ref a) (itObj a k) fun h => IsK h a items k := by
  cases k with
  | t => exact begins_tuple a items
  | l => exact begins_list a items

/-! ### enumerate(v) begins -/
set_option maxHeartbeats 1000000 in
theorem meets_enum1 {v : Value} {o : Obj} {H : Heap → Prop} (B : Begins v o H) :
    Meets (Builtin.«enumerate.__new__» ⟨[.type "enumerate", v], []⟩) (fun _ R s => H s.heap ∧
      R (.ok (.ret (.ref (s.heap.push o).objs.size))) { s with heap := (s.heap.push o).push { cls := .type "enumerate", data := .fields #[.none, .bool false, .ref s.heap.objs.size, rawInt 0, .none, .none] } }) :=
  .of_wp fun prog w A R s h => by
    obtain ⟨hp, g, d, tk, os⟩ := s; obtain ⟨h1, h⟩ := h
    have hsub := sub_enumerate
    have q1 : ∀ {A' : Around} {E : Value → Shared → Prop} {Q : Value → Shared → Prop}, Q (.ref hp.objs.size) ⟨hp.push o, g, d, tk, os⟩ → wpAny (model prog w) A' (pyIter v) Q E ⟨hp, g, d, tk, os⟩ :=
      fun q => B.iter prog w _ _ ⟨hp, g, d, tk, os⟩ _ h1 q
    wp_walk using q1
    refine wpAny_stack_any fun st => wpAny_pure ?_
    split
    · rename_i c _ _ _ _ _
      cases (c == Value.type "enumerate")
      · wp_walk using q1
        exact ⟨_, rfl, h⟩
      · wp_walk using q1
        exact ⟨_, rfl, h⟩
    · wp_walk using q1
      exact ⟨_, rfl, h⟩
theorem enum_begins1 {prog : Program} {w : World} {A : Around} {E : Value → Shared → Prop} {s : Shared} {v : Value} {o : Obj} {H : Heap → Prop} {Q : Value → Shared → Prop} (B : Begins v o H) (h1 : H s.heap)
    (h : ∀ h', IsEnum h' (s.heap.objs.size + 1) s.heap.objs.size 0 .none → h'.get? s.heap.objs.size = some o → h'.objs.size = s.heap.objs.size + 2 →
      (∀ b o, s.heap.get? b = some o → h'.get? b = some o) → Q (.ref (s.heap.objs.size + 1)) { s with heap := h' }) :
    wpAny (model prog w) A (call (.type "enumerate") [v]) Q E s := by
  refine callType_new F.called_enumerate (by decide) (F.typeCall_enumerate_1 _) (F.newCall_enumerate_1 _) (fun obj => F.args_object_init_2 obj _) F.entry_enumerate_new
    (meets_enum1 B) ⟨h1, ?_⟩
  have hz : (s.heap.push o).objs.size = s.heap.objs.size + 1 := Heap.size_push ..
  show _ ∧ _
  rw [hz]
  have he : IsEnum ((s.heap.push o).push { cls := .type "enumerate", data := .fields #[.none, .bool false, .ref s.heap.objs.size, rawInt 0, .none, .none] }) (s.heap.objs.size + 1) s.heap.objs.size 0 .none := by
    have := Heap.get?_push_size (s.heap.push o) (o := { cls := .type "enumerate", data := .fields #[.none, .bool false, .ref s.heap.objs.size, rawInt 0, .none, .none] }) rfl
    rw [hz] at this; exact this
  refine ⟨⟨_, he, rfl⟩, h _ he (Heap.get?_push_of_some _ (Heap.get?_push_size _ B.free)) (by rw [Heap.size_push, hz]) fun b o x => Heap.get?_push_of_some _ (Heap.get?_push_of_some _ x)⟩

/-! ### enumerate over a list, a tuple -/
def IteK (K : PySem.W.Frag) (k : SK) (a : Addr) : It :=
  ⟨fun i H => ∃ (xs : List V) (x : V), SqK K H a k xs ∧ xs[i]? = some x, fun i H v H' => ∃ T x, v = .ref T ∧ H T = none ∧ H' = upd H T (.tup [.int (i : Nat), x]) ∧ ∀ xs, SqK K H a k xs → xs[i]? = some x, fun i H => ∃ xs : List V, SqK K H a k xs ∧ xs.length = i⟩
theorem turn_enumK {P : Program} {w : World} {K : PySem.W.Frag} {elts : List Expr} {kk : Nat} {tpos : Pos} (k : SK) (a e it : Addr) :
    Turn P w K (.Tuple elts kk tpos) (IteK K k a) [e, it] e (fun i h => (∃ old, IsEnum h e it ((i : Nat) : Int) old) ∧ ItrK h it a i k ∧ e ≠ it ∧ a ≠ it ∧ e ≠ a) where
  mem := by simp
  obj := fun i h st b hb => by
    obtain ⟨⟨old, he⟩, hi, _⟩ := st
    have e' : b = e ∨ b = it := by simpa using hb
    rcases e' with z | z
    · rw [z]; exact ⟨_, he, fun v q => nomatch q⟩
    · rw [z]; exact hi.obj
  keep := fun i h h' st k => let ⟨⟨old, he⟩, hi, hne⟩ := st; ⟨⟨old, k e (by simp) _ he⟩, hi.at' fun o q => k it (by simp) o q, hne⟩
  item := by
    intro X hP hw hK hc i pins s σ H E I hf st hg
    subst hP hw hK
    obtain ⟨⟨old, he⟩, hit, hne, hai, hea⟩ := st
    obtain ⟨xs, x, hq, hx⟩ := hg
    obtain ⟨its, rv, p, hz⟩ := Inv_seqK I hq
    obtain ⟨u, hu, ru⟩ := rv.get hx
    have hel : e < s.heap.objs.size := Heap.lt_size he
    have hil : it < s.heap.objs.size := hit.lt
    refine wpAny_pyNext_enum_itemD (drawsK (A := X.A.in1) (I.ok.hd hc) it a hai its.toArray k) he ⟨hit, p⟩ (by
      have := (List.getElem?_eq_some_iff.mp hu).1
      simpa using this) hne (by simp [hne, hea]) fun u' h' tk hu' ho hit' hT hsz hk => ?_
    have eu : u' = u := by
      have hu'' : its[i]? = some u' := by simpa using hu'
      exact Option.some.inj (hu''.symm.trans hu)
    subst eu
    refine ⟨_, rfl, wpAny_letOwnedTupleGo_enum (s := { s with heap := h', toks := tk + 1 }) ho fun h'' he' sb => ?_⟩
    have hT2 : h''.get? s.heap.objs.size = some { cls := .type "tuple", data := .seq #[.int i tk, u'] } := (sb.2 _ (Nat.ne_of_gt hel)).trans hT
    have new : ObjOk X.prog X.w (upd H s.heap.objs.size (.tup [.int (i : Nat), x])) h'' s.heap.objs.size (.tup [.int (i : Nat), x]) :=
      ⟨by show 2 ≤ sizeLine; decide, [.int i tk, u'], .cons ⟨_, rfl⟩ (.cons ru .nil), ⟨_, hT2, rfl, _, rfl⟩⟩
    have I1 : Inv X pins σ (upd H s.heap.objs.size (.tup [.int (i : Nat), x])) { s with heap := h'', toks := tk + 1 } :=
      I.turnedNew (ch := [e, it]) (fun b ob hb q => (sb.2 b (fun z => hb (by simp [z]))).trans (hk b ob (fun z => hb (by simp [z])) (fun z => hb (by simp [z])) q)) hf (Nat.le_refl _) new
    refine ⟨.ref s.heap.objs.size, _, I1, rfl, ⟨_, x, rfl, I.hok.fresh (Nat.le_refl _), rfl, fun ys hy => by rw [Inv_seqK_inj I hy hq]; exact hx⟩, ⟨⟨u', ?_⟩, hit'.1.at' fun o q => (sb.2 it (Ne.symm hne)).trans q, hne, hai, hea⟩, fun b hb => ?_⟩
    · have e1 : ((i + 1 : Nat) : Int) = (i : Int) + 1 := by omega
      rw [e1]; exact he'
    · have hb' : b < s.heap.objs.size := by
        have e' : b = e ∨ b = it := by simpa using hb
        rcases e' with z | z
        · rw [z]; exact hel
        · rw [z]; exact hil
      rw [upd_ne (Nat.ne_of_lt hb')]
      exact (hf b hb).1
  done := by
    intro X hP hw hK hc i pins s σ H E I hf st hg
    subst hP hw hK
    obtain ⟨⟨old, he⟩, hit, hne, hai, hea⟩ := st
    obtain ⟨xs, hq, hx⟩ := hg
    obtain ⟨its, rv, p, hz⟩ := Inv_seqK I hq
    obtain ⟨f0, f1, f2, f3, f4, f5⟩ := hf it (by simp)
    have hl := rv.length
    have en : i = its.toArray.size := by simp; omega
    subst en
    exact wpAny_pyNext_enum_endD (drawsK (A := X.A.in1) (I.ok.hd hc) it a hai its.toArray k) he ⟨hit, p⟩ fun h' eb => ⟨rfl, I.turned (t' := s.toks) (fun b o hb q => eb b o hb q) f0 f1 f3 f4 f5⟩
  self := fun A i s Q E st h => let ⟨⟨_, he⟩, _⟩ := st; wpAny_pyIter_enum he h
def iEnumK (K : PySem.W.Frag) (ta : TA) : TI := fun σ H R => ta σ H fun vs H1 => ∃ k a xs, vs = [.ref a] ∧ SqK K H1 a k xs ∧ R (IteK K k a) H1
theorem pi_enumK {X : Cx} {e : Expr} {ta : TA} {p pos tpos : Pos} {elts : List Expr} {kk : Nat} (hg : Gl X "enumerate") (hm : X.mg "enumerate" = none) (ha : PA X [e] ta) (hs : starEach [e] X.env = [(false, eval e X.env)]) :
    PI X (.Tuple elts kk tpos) (.Call (.Name "enumerate" p) [e] [] pos) (iEnumK X.K ta) := by
  refine ⟨fun pins s σ H R I h => ?_⟩
  refine Call_ (ld_blt I hg hm boot_enumerate (PyProof.Rows.callWith_type1 (thn (ha.run pos pins s σ H _ I h) fun us s1 ⟨vs, H1, I1, r1, q1⟩ => ?_) hs rfl))
  obtain ⟨k, a, xs, ex, hq, q⟩ := q1
  subst ex
  cases r1 with
  | cons r rr =>
    cases rr
    cases r
    obtain ⟨its, rv, p', hz⟩ := Inv_seqK I1 hq
    have hal := p'.lt
    refine enum_begins1 (beginsK a its.toArray k) p' fun h' he hit hsz hk => wpAny_pyIter_enum he ?_
    have I2 : Inv X pins σ H1 { s1 with heap := h' } := I1.kept (t' := s1.toks) hk
    refine ⟨s1.heap.objs.size + 1, [s1.heap.objs.size + 1, s1.heap.objs.size], _, _, H1, rfl, I2, turn_enumK k a (s1.heap.objs.size + 1) s1.heap.objs.size, ⟨⟨.none, he⟩, ItrK.new hit, Nat.succ_ne_self _, Nat.ne_of_lt hal, Nat.ne_of_gt (Nat.lt_succ_of_lt hal)⟩, fun b hb => ?_, q⟩
    have e' : b = s1.heap.objs.size + 1 ∨ b = s1.heap.objs.size := by simpa using hb
    have hle : s1.heap.objs.size ≤ b := by
      rcases e' with z | z
      · rw [z]; exact Nat.le_add_right _ _
      · rw [z]; exact Nat.le_refl _
    exact I1.fpOk hle (I1.hok.fresh hle)

/-! ### zip of two -/
def ItzK (K : PySem.W.Frag) (k1 k2 : SK) (a b : Addr) : It :=
  ⟨fun i H => ∃ (xs ys : List V) (x y : V), SqK K H a k1 xs ∧ SqK K H b k2 ys ∧ xs[i]? = some x ∧ ys[i]? = some y,
    fun i H v H' => ∃ T x y, v = .ref T ∧ H T = none ∧ H' = upd H T (.tup [x, y]) ∧ (∀ xs, SqK K H a k1 xs → xs[i]? = some x) ∧ ∀ ys, SqK K H b k2 ys → ys[i]? = some y,
    fun i H => ∃ xs ys : List V, SqK K H a k1 xs ∧ SqK K H b k2 ys ∧ (xs.length ≤ i ∨ ys.length ≤ i) ∧ i ≤ xs.length ∧ i ≤ ys.length⟩
theorem turn_zipK {P : Program} {w : World} {K : PySem.W.Frag} {elts : List Expr} {kk : Nat} {tpos : Pos} {k1 k2 : SK} {a b z TI TO i1 i2 : Addr} (S : ZipSep2 z TI TO i1 i2 [i1, a] [i2, b]) (ha1 : a ≠ i1) (hb2 : b ≠ i2) :
    Turn P w K (.Tuple elts kk tpos) (ItzK K k1 k2 a b) [z, TI, TO, i1, i2] z (fun i h => IsZip h z TI TO .none ∧ IsTupOf2 h TI (.ref i1) (.ref i2) ∧ (∃ x y, IsTupOf2 h TO x y) ∧ ItrK h i1 a i k1 ∧ ItrK h i2 b i k2) where
  mem := by simp
  obj := fun i h st c hc => by
    obtain ⟨hz, hTI, ⟨x, y, hTO⟩, h1, h2⟩ := st
    have e' : c = z ∨ c = TI ∨ c = TO ∨ c = i1 ∨ c = i2 := by simpa using hc
    rcases e' with q | q | q | q | q
    · rw [q]; exact ⟨_, hz, fun v q => nomatch q⟩
    · rw [q]; exact ⟨_, hTI, fun v q => nomatch q⟩
    · rw [q]; exact ⟨_, hTO, fun v q => nomatch q⟩
    · rw [q]; exact h1.obj
    · rw [q]; exact h2.obj
  keep := fun i h h' st k => by
    obtain ⟨hz, hTI, ⟨x, y, hTO⟩, h1, h2⟩ := st
    exact ⟨k z (by simp) _ hz, k TI (by simp) _ hTI, ⟨x, y, k TO (by simp) _ hTO⟩, h1.at' fun o q => k i1 (by simp) o q, h2.at' fun o q => k i2 (by simp) o q⟩
  item := by
    intro X hP hw hK hc i pins s σ H E I hf st hg
    subst hP hw hK
    obtain ⟨hz, hTI, ⟨x0, y0, hTO⟩, h1, h2⟩ := st
    obtain ⟨xs, ys, x, y, hqx, hqy, hx, hy⟩ := hg
    obtain ⟨its, rv, p, _⟩ := Inv_seqK I hqx
    obtain ⟨its2, rv2, p2, _⟩ := Inv_seqK I hqy
    obtain ⟨u, hu, ru⟩ := rv.get hx
    obtain ⟨u2, hu2, ru2⟩ := rv2.get hy
    have hzl : z < s.heap.objs.size := Heap.lt_size hz
    refine wpAny_pyNext_zipD2_item S (drawsK (A := X.A.in1) (I.ok.hd hc) i1 a ha1 its.toArray k1) (drawsK (A := X.A.in1) (I.ok.hd hc) i2 b hb2 its2.toArray k2) hz hTI hTO ⟨h1, p⟩ ⟨h2, p2⟩
      (by have := (List.getElem?_eq_some_iff.mp hu).1; simpa using this) (by have := (List.getElem?_eq_some_iff.mp hu2).1; simpa using this) fun w1 w2 h' tk e1 e2 z' TO' h1' h2' hT hsz hk => ?_
    have eu : w1 = u := by
      have q : its[i]? = some w1 := by simpa using e1
      exact Option.some.inj (q.symm.trans hu)
    have eu2 : w2 = u2 := by
      have q : its2[i]? = some w2 := by simpa using e2
      exact Option.some.inj (q.symm.trans hu2)
    subst eu eu2
    refine ⟨_, rfl, wpAny_letOwnedTupleGo_zip (s := { s with heap := h', toks := tk }) z' fun h'' z'' sb => ?_⟩
    have hT2 : h''.get? s.heap.objs.size = some { cls := .type "tuple", data := .seq #[w1, w2] } := (sb.2 _ (Nat.ne_of_gt hzl)).trans hT
    have new : ObjOk X.prog X.w (upd H s.heap.objs.size (.tup [x, y])) h'' s.heap.objs.size (.tup [x, y]) :=
      ⟨by show 2 ≤ sizeLine; decide, [w1, w2], .cons ru (.cons ru2 .nil), ⟨_, hT2, rfl, _, rfl⟩⟩
    have I1 : Inv X pins σ (upd H s.heap.objs.size (.tup [x, y])) { s with heap := h'', toks := tk } :=
      I.turnedNew (t' := tk) (ch := [z, TI, TO, i1, i2]) (fun c o hb q => (sb.2 c (fun q' => hb (by simp [q']))).trans (hk c o (fun q' => hb (by simp [q'])) (fun q' => hb (by simp [q'])) (fun q' => hb (by simp [q'])) (fun q' => hb (by simp [q'])) q)) hf (Nat.le_refl _) new
    refine ⟨.ref s.heap.objs.size, _, I1, rfl, ⟨_, x, y, rfl, I.hok.fresh (Nat.le_refl _), rfl, fun l hl => by rw [Inv_seqK_inj I hl hqx]; exact hx, fun l hl => by rw [Inv_seqK_inj I hl hqy]; exact hy⟩, ⟨z'', ?_, ⟨w1, w2, ?_⟩, ?_, ?_⟩, fun c hcm => ?_⟩
    · exact (sb.2 _ S.TIz).trans (hk _ _ S.TIz S.TITO S.TIi1 S.TIi2 hTI)
    · exact (sb.2 _ S.TOz).trans TO'
    · exact h1'.1.at' fun o q => (sb.2 _ (Ne.symm S.zi1)).trans q
    · exact h2'.1.at' fun o q => (sb.2 _ (Ne.symm S.zi2)).trans q
    · have hlt : c < s.heap.objs.size := by
        have e' : c = z ∨ c = TI ∨ c = TO ∨ c = i1 ∨ c = i2 := by simpa using hcm
        rcases e' with q | q | q | q | q
        · rw [q]; exact hzl
        · rw [q]; exact Heap.lt_size hTI
        · rw [q]; exact Heap.lt_size hTO
        · rw [q]; exact h1.lt
        · rw [q]; exact h2.lt
      rw [upd_ne (Nat.ne_of_lt hlt)]
      exact (hf c hcm).1
  done := by
    intro X hP hw hK hc i pins s σ H E I hf st hg
    subst hP hw hK
    obtain ⟨hz, hTI, ⟨x0, y0, hTO⟩, h1, h2⟩ := st
    obtain ⟨xs, ys, hqx, hqy, hend, g1, g2⟩ := hg
    obtain ⟨its, rv, p, _⟩ := Inv_seqK I hqx
    obtain ⟨its2, rv2, p2, _⟩ := Inv_seqK I hqy
    have l1 := rv.length
    have l2 := rv2.length
    exact wpAny_pyNext_zipD2_end S (drawsK (A := X.A.in1) (I.ok.hd hc) i1 a ha1 its.toArray k1) (drawsK (A := X.A.in1) (I.ok.hd hc) i2 b hb2 its2.toArray k2) hz hTI hTO ⟨h1, p⟩ ⟨h2, p2⟩ (by simp; omega) (by simp; omega) (by simp; omega)
      fun h' tk hk => ⟨rfl, I.turnedL (t' := tk) (ch := [z, TI, TO, i1, i2]) (fun c o hb q =>
        hk c o (fun q' => hb (by simp [q'])) (fun q' => hb (by simp [q'])) (fun q' => hb (by simp [q'])) (fun q' => hb (by simp [q'])) q) hf⟩
  self := fun A i s Q E st h => wpAny_pyIter_zip st.1 h
def iZipK (K : PySem.W.Frag) (ta : TA) : TI := fun σ H R => ta σ H fun vs H1 => ∃ k1 k2 a b xs ys, vs = [.ref a, .ref b] ∧ SqK K H1 a k1 xs ∧ SqK K H1 b k2 ys ∧ R (ItzK K k1 k2 a b) H1
theorem pi_zipK {X : Cx} {e e2 : Expr} {ta : TA} {p pos tpos : Pos} {elts : List Expr} {kk : Nat} (hg : Gl X "zip") (hm : X.mg "zip" = none) (ha : PA X [e, e2] ta)
    (hs : starEach [e, e2] X.env = (false, eval e X.env) :: starEach [e2] X.env) (hpl : (backTo pos (starEach [e2] X.env)).any (·.1) = false) :
    PI X (.Tuple elts kk tpos) (.Call (.Name "zip" p) [e, e2] [] pos) (iZipK X.K ta) := by
  refine ⟨fun pins s σ H R I h => ?_⟩
  refine Call_ (ld_blt I hg hm PyProof.Rows.boot_zip (PyProof.Rows.callWith_type1 (thn (ha.run pos pins s σ H _ I h) fun us s1 ⟨vs, H1, I1, r1, q1⟩ => ?_) hs hpl))
  obtain ⟨k1, k2, a, b, xs, ys, ex, hqx, hqy, q⟩ := q1
  subst ex
  cases r1 with
  | cons r rr =>
    cases rr with
    | cons r' rr =>
      cases rr
      cases r
      cases r'
      have fresh5 : ∀ c, c ∈ [s1.heap.objs.size + 4, s1.heap.objs.size + 2, s1.heap.objs.size + 3, s1.heap.objs.size, s1.heap.objs.size + 1] → FpOk X pins H1 c := fun c hcm => by
        have e' : c = s1.heap.objs.size + 4 ∨ c = s1.heap.objs.size + 2 ∨ c = s1.heap.objs.size + 3 ∨ c = s1.heap.objs.size ∨ c = s1.heap.objs.size + 1 := by simpa using hcm
        have hle : s1.heap.objs.size ≤ c := by
          rcases e' with z | z | z | z | z
          · rw [z]; exact Nat.le_add_right _ _
          · rw [z]; exact Nat.le_add_right _ _
          · rw [z]; exact Nat.le_add_right _ _
          · rw [z]; exact Nat.le_refl _
          · rw [z]; exact Nat.le_add_right _ _
        exact I1.fpOk hle (I1.hok.fresh hle)
      obtain ⟨its, rv, p1, _⟩ := Inv_seqK I1 hqx
      obtain ⟨its2, rv2, p2, _⟩ := Inv_seqK I1 hqy
      refine zip_begins2 (beginsK a its.toArray k1) (beginsK b its2.toArray k2) p1 p2 fun h' hz hTI hTO h1 h2 hsz hk => wpAny_pyIter_zip hz ?_
      have I2 : Inv X pins σ H1 { s1 with heap := h' } := I1.kept (t' := s1.toks) hk
      exact ⟨s1.heap.objs.size + 4, [s1.heap.objs.size + 4, s1.heap.objs.size + 2, s1.heap.objs.size + 3, s1.heap.objs.size, s1.heap.objs.size + 1], _, _, H1, rfl, I2,
        turn_zipK (k1 := k1) (k2 := k2) (a := a) (b := b) (zip_sep2 (N := s1.heap.objs.size) (fp1 := [a]) (fp2 := [b]) (fun c hc => by have e := List.mem_singleton.mp hc; rw [e]; exact p1.lt) (fun c hc => by have e := List.mem_singleton.mp hc; rw [e]; exact p2.lt)) (Nat.ne_of_lt p1.lt) (Nat.ne_of_lt (Nat.lt_succ_of_lt p2.lt)),
        ⟨hz, hTI, ⟨_, _, hTO⟩, ItrK.new h1, ItrK.new h2⟩, fresh5, q⟩
end Cl

/-! Cl, part I: what is walked; comprehensions. -/
namespace Cl
open PySem L2

def SqF (K : PySem.W.Frag) (L M : List Addr) (H : Hp) (a : Addr) : SK → List V → Prop
  | .t, vs => TuF K L M H a vs
  | .l, vs => LsF K L M H a vs ∨ RoF K L M H a vs
/-- an iterator J goes over the items of a source -/
inductive SrcR (K : PySem.W.Frag) (L M : List Addr) (H : Hp) : It → Src → Prop where
  | tup {a : Addr} {vs : List V} {ds : List D} (h : SqF K L M H a .t vs) (q : Vls K L M H vs ds) : SrcR K L M H (Itt K a) (.fix ds)
  | lst {a : Addr} {vs : List V} {ds : List D} (h : SqF K L M H a .l vs) (q : Vls K L M H vs ds) : SrcR K L M H (Itl K a) (.fix ds)
  | at {a : Addr} {n : Nat} {ds : List D} (h : M[n]? = some a) : SrcR K L M H (Itl K a) (.at n ds)
  | rng (lo : Int) (n : Nat) : SrcR K L M H (Itr lo n) (.fix ((List.range n).map fun k => .int (lo + (k : Nat))))
  | rngC (hi : Int) (n : Nat) : SrcR K L M H (Itc hi (-1) n) (.fix ((List.range n).map fun k => .int (hi - (k : Nat))))
  | enm {k : SK} {a : Addr} {vs : List V} {ds : List D} (h : SqF K L M H a k vs) (q : Vls K L M H vs ds) : SrcR K L M H (IteK K k a) (.fix (enmD 0 ds))
  | zip {k1 k2 : SK} {a b : Addr} {vs us : List V} {ds es : List D} (h1 : SqF K L M H a k1 vs) (q1 : Vls K L M H vs ds) (h2 : SqF K L M H b k2 us) (q2 : Vls K L M H us es) : SrcR K L M H (ItzK K k1 k2 a b) (.fix (zipD ds es))
section
variable {K : PySem.W.Frag} {L M M' : List Addr} {H H' : Hp} {a : Addr} {vs : List V} {J : It} {src : Src} {st : Store} {k : SK}
theorem SqF.ext (e : Ext M H M' H') (h : SqF K L M H a k vs) : SqF K L M' H' a k vs := by
  cases k with
  | t => exact TuF.ext (K := K) e h
  | l => exact h.elim (fun z => .inl (z.ext e)) fun z => .inr (z.ext e)
theorem SqF.hide {p : Addr} (hp : H p = none) (h : SqF K L M H a k vs) : SqF K (p :: L) M H a k vs := by
  cases k with
  | t =>
    obtain ⟨h, n, l⟩ := (show TuF K L M H a vs from h)
    exact ⟨h, n, fun q => (List.mem_cons.mp q).elim (ne_of_none h hp) l⟩
  | l =>
    rcases (show LsF K L M H a vs ∨ RoF K L M H a vs from h) with ⟨h, n, l⟩ | ⟨⟨o, h⟩, n, l⟩ | h
    · exact .inl ⟨h, n, fun q => (List.mem_cons.mp q).elim (ne_of_none h hp) l⟩
    · exact .inr (.inl ⟨⟨o, h⟩, n, fun q => (List.mem_cons.mp q).elim (ne_of_none h hp) l⟩)
    · exact .inr (.inr h)
theorem SqF.sq (h : SqF K L M H a k vs) : SqK K H a k vs := by
  cases k with
  | t => exact TuF.sq h
  | l => exact h.elim (fun z => z.sq) fun z => z.sq
theorem SrcR.ext (e : Ext M H M' H') (h : SrcR K L M H J src) : SrcR K L M' H' J src := by
  cases h with
  | tup h q => exact .tup (h.ext e) (q.ext e)
  | lst h q => exact .lst (h.ext e) (q.ext e)
  | «at» h => exact .at (e.get h)
  | rng lo n => exact .rng lo n
  | rngC lo n => exact .rngC lo n
  | enm h q => exact .enm (h.ext e) (q.ext e)
  | zip h1 q1 h2 q2 => exact .zip (h1.ext e) (q1.ext e) (h2.ext e) (q2.ext e)
theorem SrcR.hide {p : Addr} (hp : H p = none) (h : SrcR K L M H J src) : SrcR K (p :: L) M H J src := by
  cases h with
  | tup h q => exact .tup (h.hide hp) (q.hide hp)
  | lst h q => exact .lst (h.hide hp) (q.hide hp)
  | «at» h => exact .at h
  | rng lo n => exact .rng lo n
  | rngC lo n => exact .rngC lo n
  | enm h q => exact .enm (h.hide hp) (q.hide hp)
  | zip h1 q1 h2 q2 => exact .zip (h1.hide hp) (q1.hide hp) (h2.hide hp) (q2.hide hp)
theorem enmD_len : ∀ (k : Nat) (ds : List D), (enmD k ds).length = ds.length
  | _, [] => rfl
  | k, d :: ds => by simp [enmD, enmD_len (k + 1) ds]
theorem enmD_get : ∀ (k : Nat) (ds : List D) (i : Nat) (d : D), ds[i]? = some d → (enmD k ds)[i]? = some (.tup [.int ((k + i : Nat) : Int), d])
  | _, [], _, _, h => by simp at h
  | k, d :: ds, 0, _, h => by simp at h; subst h; simp [enmD]
  | k, d :: ds, i + 1, e, h => by
    have ih := enmD_get (k + 1) ds i e (by simpa using h)
    have e1 : k + 1 + i = k + (i + 1) := by omega
    simp [enmD, ih, e1]
theorem zipD_len : ∀ ds es : List D, (zipD ds es).length = min ds.length es.length
  | [], _ => by simp [zipD]
  | _ :: _, [] => by simp [zipD]
  | d :: ds, e :: es => by simp [zipD, zipD_len ds es]
theorem zipD_get : ∀ (ds es : List D) (i : Nat) (d e : D), ds[i]? = some d → es[i]? = some e → (zipD ds es)[i]? = some (.tup [d, e])
  | [], _, _, _, _, h, _ => by simp at h
  | _ :: _, [], _, _, _, _, h => by simp at h
  | d :: ds, e :: es, 0, _, _, h, k => by simp at h k; subst h k; rfl
  | d :: ds, e :: es, i + 1, _, _, h, k => by simpa [zipD] using zipD_get ds es i _ _ (by simpa using h) (by simpa using k)
/-- a source stands -/
theorem SrcR.go (h : SrcR K L M H J src) (r : Rel K L M st H) (ok : src.ok st = true) {i : Nat} (hi : i < src.items.length) : J.go i H := by
  cases h with
  | @tup a vs ds h q =>
    have hi' : i < ds.length := hi
    rw [← q.length] at hi'
    exact ⟨_, _, h.sq, List.getElem?_eq_getElem hi'⟩
  | @lst a vs ds h q =>
    have hi' : i < ds.length := hi
    rw [← q.length] at hi'
    exact ⟨_, _, h.sq, List.getElem?_eq_getElem hi'⟩
  | @«at» a n ds h =>
    simp only [Src.ok] at ok
    split at ok
    · rename_i xs hx
      have e := Ds.beq_eq _ _ ok
      subst e
      obtain ⟨vs, h1, h2⟩ := r.obj _ _ _ h hx
      have hi' : i < (Src.items (.at n xs)).length := hi
      change i < xs.length at hi'
      rw [← h2.length] at hi'
      exact ⟨vs, _, .of h1, List.getElem?_eq_getElem hi'⟩
    · cases ok
  | rng lo n =>
    have hi' : i < ((List.range n).map (fun k => D.int (lo + (k : Nat)))).length := hi
    rw [List.length_map, List.length_range] at hi'
    exact hi'
  | rngC lo n =>
    have hi' : i < ((List.range n).map (fun k => D.int (lo - (k : Nat)))).length := hi
    rw [List.length_map, List.length_range] at hi'
    exact hi'
  | enm h q =>
    have hi' : i < (enmD 0 _).length := hi
    rw [enmD_len, ← q.length] at hi'
    exact ⟨_, _, h.sq, List.getElem?_eq_getElem hi'⟩
  | zip h1 q1 h2 q2 =>
    have hi' : i < (zipD _ _).length := hi
    rw [zipD_len, ← q1.length, ← q2.length] at hi'
    exact ⟨_, _, _, _, h1.sq, h2.sq, List.getElem?_eq_getElem (by omega), List.getElem?_eq_getElem (by omega)⟩
theorem SrcR.stop (h : SrcR K L M H J src) (r : Rel K L M st H) (ok : src.ok st = true) : J.stop src.items.length H := by
  cases h with
  | tup h q => exact ⟨_, h.sq, by rw [q.length]; exact Nat.le_refl _⟩
  | lst h q => exact ⟨_, h.sq, by rw [q.length]; exact Nat.le_refl _⟩
  | @«at» a n ds h =>
    simp only [Src.ok] at ok
    split at ok
    · rename_i xs hx
      have e := Ds.beq_eq _ _ ok
      subst e
      obtain ⟨vs, h1, h2⟩ := r.obj _ _ _ h hx
      exact ⟨vs, .of h1, by rw [h2.length]; exact Nat.le_refl _⟩
    · cases ok
  | rng lo n => show n ≤ ((List.range n).map _).length; simp
  | rngC lo n => show n ≤ ((List.range n).map _).length; simp
  | enm h q => exact ⟨_, h.sq, by rw [q.length]; exact (enmD_len 0 _).symm⟩
  | zip h1 q1 h2 q2 =>
    have e := zipD_len
    refine ⟨_, _, h1.sq, h2.sq, ?_, ?_, ?_⟩
    · rw [q1.length, q2.length]; show _ ≤ (zipD _ _).length ∨ _ ≤ (zipD _ _).length; rw [zipD_len]; omega
    · rw [q1.length]; show (zipD _ _).length ≤ _; rw [zipD_len]; omega
    · rw [q2.length]; show (zipD _ _).length ≤ _; rw [zipD_len]; omega
theorem SrcR.yld (h : SrcR K L M H J src) (r : Rel K L M st H) (ok : src.ok st = true) {i : Nat} {d : D} (hi : src.items[i]? = some d) {x : V} (y : J.yld i H x H') :
    Ext M H M H' ∧ Rel K L M st H' ∧ Val K L M H' x d := by
  cases h with
  | tup h q =>
    obtain ⟨rfl, y⟩ := y
    obtain ⟨v, h1, h2⟩ := q.get hi
    cases h1.symm.trans (y _ h.sq)
    exact ⟨.refl _ _, r, h2⟩
  | lst h q =>
    obtain ⟨rfl, y⟩ := y
    obtain ⟨v, h1, h2⟩ := q.get hi
    cases h1.symm.trans (y _ h.sq)
    exact ⟨.refl _ _, r, h2⟩
  | @«at» a n ds h =>
    obtain ⟨rfl, y⟩ := y
    simp only [Src.ok] at ok
    split at ok
    · rename_i xs hx
      have e := Ds.beq_eq _ _ ok
      subst e
      obtain ⟨vs, h1, h2⟩ := r.obj _ _ _ h hx
      obtain ⟨v, h3, h4⟩ := h2.get hi
      cases h3.symm.trans (y _ (.of h1))
      exact ⟨.refl _ _, r, h4⟩
    · cases ok
  | rng lo n =>
    obtain ⟨rfl, rfl⟩ := y
    have hi : ((List.range n).map fun k => D.int (lo + (k : Nat)))[i]? = some d := hi
    rw [List.getElem?_map] at hi
    obtain ⟨j, hj, rfl⟩ := Option.map_eq_some_iff.mp hi
    obtain ⟨hl, rfl⟩ := List.getElem?_eq_some_iff.mp hj
    rw [List.getElem_range]
    exact ⟨.refl _ _, r, .int _⟩
  | rngC lo n =>
    obtain ⟨rfl, rfl⟩ := y
    have hi : ((List.range n).map fun k => D.int (lo - (k : Nat)))[i]? = some d := hi
    rw [List.getElem?_map] at hi
    obtain ⟨j, hj, rfl⟩ := Option.map_eq_some_iff.mp hi
    obtain ⟨hl, rfl⟩ := List.getElem?_eq_some_iff.mp hj
    rw [List.getElem_range]
    have e0 : lo + ((i : Nat) : Int) * -1 = lo - (i : Nat) := by omega
    rw [e0]
    exact ⟨.refl _ _, r, .int _⟩
  | @enm k a vs ds h q =>
    obtain ⟨T, x, rfl, hT, rfl, y⟩ := y
    have hi : (enmD 0 ds)[i]? = some d := hi
    have hx := y _ h.sq
    obtain ⟨d', h1, h2⟩ := q.getV hx
    rw [enmD_get 0 ds i d' h1] at hi
    cases hi
    refine ⟨.new hT (r.fresh hT), r.new hT, r.newTup hT (.cons ?_ (.cons h2 .nil))⟩
    rw [Nat.zero_add]
    exact .int _
  | @zip k1 k2 a b vs us ds es h1 q1 h2 q2 =>
    obtain ⟨T, x, z, rfl, hT, rfl, y1, y2⟩ := y
    have hi : (zipD ds es)[i]? = some d := hi
    obtain ⟨d1, e1, e2⟩ := q1.getV (y1 _ h1.sq)
    obtain ⟨d2, e3, e4⟩ := q2.getV (y2 _ h2.sq)
    rw [zipD_get ds es i d1 d2 e1 e3] at hi
    cases hi
    exact ⟨.new hT (r.fresh hT), r.new hT, r.newTup hT (.cons e2 (.cons e4 .nil))⟩
end

/-! ### the readings of what is walked -/
section
variable (K : PySem.W.Frag) (mg : Str → Option Value) (W : WX)
def OkI (L : List Addr) (R : It → Hp → Prop) (M : List Addr) (H : Hp) (st : Store) (src : Src) : Prop := ∀ M' H' J, Ext M H M' H' → Rel K L M' st H' → SrcR K L M' H' J src → R J H'
def LI (f : Env → Cl.M Src) : TI := fun σ H R => ∃ L M st env, RelE K L M H σ env ∧ Rel K L M st H ∧ Run K mg L W σ (OkI K L R) M H (f env) st
end
theorem OkI.mono {K : PySem.W.Frag} {L : List Addr} {R : It → Hp → Prop} : Mono (OkI K L R) := fun M H M' H' st a e h M2 H2 J e2 r q => h M2 H2 J (e.trans e2) r q
theorem PI_mono {X : Cx} {tg it : Expr} {t t' : TI} (h : PI X tg it t) (m : ∀ σ H R, t' σ H R → t σ H R) : PI X tg it t' := ⟨fun pins s σ H R I q => h.run pins s σ H R I (m σ H R q)⟩
abbrev SI (cf : CF) (X : Cx) (W : WX) (tg : Expr) (c : CI) (e : Expr) : Prop := PI X tg e (LI X.K X.mg W (evI cf c))
/-- a list or a tuple, walked -/
def iSeq (K : PySem.W.Frag) (te : TE) : TI := fun σ H R => te σ H fun x H1 => ∃ a, x = .ref a ∧ (((∃ xs, SqL K H1 a xs) ∧ R (Itl K a) H1) ∨ ((∃ xs, SqT K H1 a xs) ∧ R (Itt K a) H1))
theorem pi_seq {X : Cx} {tg l : Expr} {te : TE} (hl : PE X l te) : PI X tg l (iSeq X.K te) := by
  refine ⟨fun pins s σ H R I h => ?_⟩
  refine L2.thn (hl.run pins s σ H _ I h) fun v s1 ⟨x, H1, I1, r1, a, e, q1⟩ => ?_
  subst e
  cases r1
  rcases q1 with ⟨⟨xs, hq⟩, q⟩ | ⟨⟨xs, hq⟩, q⟩
  · obtain ⟨its, rv, p, hz⟩ := I1.list hq
    refine wpAny_pyIter_list p.isList ?_
    refine ⟨s1.heap.objs.size, [s1.heap.objs.size], _, _, H1, rfl, I1.kept (t' := s1.toks) fun b o e => Heap.get?_push_of_some _ e, turn_list a _, ⟨_, Heap.get?_push_size _ rfl, rfl, rfl⟩, fun b hb => ?_, q⟩
    have e : b = s1.heap.objs.size := by simpa using hb
    subst e
    exact I1.fpOk (Nat.le_refl _) (I1.hok.fresh (Nat.le_refl _))
  · obtain ⟨its, rv, p, hz⟩ := I1.tuple hq
    refine wpAny_pyIter_tuple (show s1.heap.IsTuple a its.toArray from p) ?_
    refine ⟨s1.heap.objs.size, [s1.heap.objs.size], _, _, H1, rfl, I1.kept (t' := s1.toks) fun b o e => Heap.get?_push_of_some _ e, turn_tuple a _, ⟨_, Heap.get?_push_size _ rfl, rfl, rfl⟩, fun b hb => ?_, q⟩
    have e : b = s1.heap.objs.size := by simpa using hb
    subst e
    exact I1.fpOk (Nat.le_refl _) (I1.hok.fresh (Nat.le_refl _))
section
variable {cf : CF} {X : Cx} {W : WX} {a b c : CE} {ea eb ec tg : Expr} {pos p tpos : Pos} {es elts : List Expr} {as : CA} {kk : Nat}
theorem si_over (ha : SX cf X W a ea) : SI cf X W tg (.over a) ea := by
  refine PI_mono (pi_seq ha) fun σ H R h => ?_
  obtain ⟨L, M, st, env, hE, hR, h⟩ := h
  refine ⟨L, M, st, env, hE, hR, (Run.bnd OkI.mono h).mono fun st1 x k => OkE.of fun M1 H1 v e1 R1 v1 => ?_⟩
  obtain ⟨src, he, ho⟩ := Run.lft (Run.eq (m' := lft (overD st1 x.val)) (k M1 H1 e1) rfl)
  generalize x.val = d at he v1
  cases v1 with
  | tup h q => cases he; exact ⟨_, rfl, .inr ⟨⟨_, h.sq⟩, ho M1 H1 _ (.refl _ _) R1 (.tup h q)⟩⟩
  | lst h q => cases he; exact ⟨_, rfl, .inl ⟨⟨_, h.sq⟩, ho M1 H1 _ (.refl _ _) R1 (.lst (.inl h) q)⟩⟩
  | rol h q => cases he; exact ⟨_, rfl, .inl ⟨⟨_, h.sq⟩, ho M1 H1 _ (.refl _ _) R1 (.lst (.inr h) q)⟩⟩
  | loc h =>
    simp only [overD] at he
    split at he
    · rename_i xs hx
      cases he
      obtain ⟨vs, h1, h2⟩ := R1.obj _ _ _ h hx
      exact ⟨_, rfl, .inl ⟨⟨_, .of h1⟩, ho M1 H1 _ (.refl _ _) R1 (.at h)⟩⟩
    · cases he
  | _ => cases he
theorem okR_of {i : Int} (h : okR i = true) : -(2 ^ 62) ≤ i ∧ i < 2 ^ 62 := by
  simp only [okR, Bool.and_eq_true, decide_eq_true_eq] at h
  exact h
theorem vls_int1 {K : PySem.W.Frag} {L M : List Addr} {H : Hp} {vs : List V} {i : Int} (q : Vls K L M H vs [.int i]) : vs = [.int i] := by
  obtain ⟨v, rfl, h⟩ := vls1 q
  cases h; rfl
theorem vls_int2 {K : PySem.W.Frag} {L M : List Addr} {H : Hp} {vs : List V} {i j : Int} (q : Vls K L M H vs [.int i, .int j]) : vs = [.int i, .int j] := by
  obtain ⟨v, w, rfl, h, h2⟩ := vls2 q
  cases h; cases h2; rfl
theorem si_rng1 (hg : Gl X "range") (hm : X.mg "range" = none) (hp : plE ea = true) (hs : SA cf X W as [ea]) (h1 : ∃ a', as = .cons a' .nil) : SI cf X W tg (.rng as) (.Call (.Name "range" p) [ea] [] pos) := by
  refine PI_mono (pi_range1 hg hm hs (star_cons hp)) fun σ H R h => ?_
  obtain ⟨L, M, st, env, hE, hR, h⟩ := h
  refine ⟨L, M, st, env, hE, hR, ?_⟩
  have h2 := Run.bnd OkI.mono h
  obtain ⟨r, st1, e, q⟩ := h2
  refine ⟨r, st1, e, ?_⟩
  cases r with
  | ex x => exact q
  | ok ds =>
    have hl : ds.length = 1 := by
      obtain ⟨a', rfl⟩ := h1
      have e : bnd (evX cf a' env) (fun x => bnd (evA cf .nil env) fun ds => ret (x.val :: ds)) st = some (.ok ds, st1) := e
      simp only [Cl.bnd] at e
      split at e
      · split at e
        · rename_i _ _ _ _ _ _ h3
          cases h3; cases e; rfl
        · cases e
        · cases e
      · cases e
      · cases e
    intro M1 H1 vs e1 R1 v1
    have k := q M1 H1 e1
    split at k
    · rename_i n
      split at k
      · rename_i hr
        have e0 := vls_int1 v1
        subst e0
        refine ⟨n, rfl, (okR_of hr).1, (okR_of hr).2, ?_⟩
        have := Run.ret k M1 H1 (Itr 0 n.toNat) (.refl _ _) R1 (by
          have z := SrcR.rng (K := X.K) (L := L) (M := M1) (H := H1) 0 n.toNat
          have ez : n - 0 = n := by omega
          unfold rngD
          rw [ez]
          exact z)
        exact this
      · obtain ⟨_, z, _⟩ := Run.lft k; cases z
    · simp at hl
    · simp at hl
    · obtain ⟨_, z, _⟩ := Run.lft k; cases z
theorem si_rng2 (hg : Gl X "range") (hm : X.mg "range" = none) (hp : plE ea = true) (hp2 : plE eb = true) (hs : SA cf X W as [ea, eb]) (h1 : ∃ a' b', as = .cons a' (.cons b' .nil)) : SI cf X W tg (.rng as) (.Call (.Name "range" p) [ea, eb] [] pos) := by
  refine PI_mono (pi_range2 hg hm hs (by rw [star_cons hp, star_cons hp2]; rfl) (star_cons hp2)) fun σ H R h => ?_
  obtain ⟨L, M, st, env, hE, hR, h⟩ := h
  refine ⟨L, M, st, env, hE, hR, ?_⟩
  have h2 := Run.bnd OkI.mono h
  obtain ⟨r, st1, e, q⟩ := h2
  refine ⟨r, st1, e, ?_⟩
  cases r with
  | ex x => exact q
  | ok ds =>
    have hl : ds.length = 2 := by
      obtain ⟨a', b', rfl⟩ := h1
      have e : bnd (evX cf a' env) (fun x => bnd (evA cf (.cons b' .nil) env) fun ds => ret (x.val :: ds)) st = some (.ok ds, st1) := e
      simp only [Cl.bnd] at e
      split at e
      · split at e
        · rename_i _ x1 _ _ _ ds1 _ h3
          cases e
          have h3 : bnd (evX cf b' env) (fun x => bnd (evA cf .nil env) fun ds => ret (x.val :: ds)) _ = some (.ok ds1, _) := h3
          simp only [Cl.bnd] at h3
          split at h3
          · split at h3
            · rename_i _ _ _ _ _ _ h4
              cases h4; cases h3; rfl
            · cases h3
            · cases h3
          · cases h3
          · cases h3
        · cases e
        · cases e
      · cases e
      · cases e
    intro M1 H1 vs e1 R1 v1
    have k := q M1 H1 e1
    split at k
    · simp at hl
    · rename_i i j
      split at k
      · rename_i hr
        have e0 := vls_int2 v1
        subst e0
        have hr' := Bool.and_eq_true_iff.mp hr
        exact ⟨i, j, rfl, ⟨(okR_of hr'.1).1, (okR_of hr'.1).2, (okR_of hr'.2).1, (okR_of hr'.2).2⟩, Run.ret k M1 H1 (Itr i (j - i).toNat) (.refl _ _) R1 (SrcR.rng (K := X.K) (L := L) (M := M1) (H := H1) i (j - i).toNat)⟩
      · obtain ⟨_, z, _⟩ := Run.lft k; cases z
    · simp at hl
    · obtain ⟨_, z, _⟩ := Run.lft k; cases z
def lenA : CA → Nat
  | .nil => 0
  | .cons _ as => lenA as + 1
theorem evA_len : ∀ (as : CA) (env : Env) (st st' : Store) (ds : List D), evA cf as env st = some (.ok ds, st') → ds.length = lenA as
  | .nil, env, st, st', ds, e => by cases e; rfl
  | .cons a as, env, st, st', ds, e => by
    have e : bnd (evX cf a env) (fun x => bnd (evA cf as env) fun ds => ret (x.val :: ds)) st = some (.ok ds, st') := e
    simp only [Cl.bnd] at e
    split at e
    · split at e
      · rename_i h3
        cases e
        rw [List.length_cons, evA_len as env _ _ _ h3]; rfl
      · cases e
      · cases e
    · cases e
    · cases e
theorem vls_int3 {K : PySem.W.Frag} {L M : List Addr} {H : Hp} {vs : List V} {i j k : Int} (q : Vls K L M H vs [.int i, .int j, .int k]) : vs = [.int i, .int j, .int k] := by
  cases q with
  | cons h hs => cases h; rw [vls_int2 hs]
theorem si_rng3 (hg : Gl X "range") (hm : X.mg "range" = none) (hp : plE ea = true) (hp2 : plE eb = true) (hp3 : plE ec = true) (hs : SA cf X W as [ea, eb, ec]) (h1 : lenA as = 3) : SI cf X W tg (.rng as) (.Call (.Name "range" p) [ea, eb, ec] [] pos) := by
  refine PI_mono (pi_range3 hg hm hs (star_cons hp) (star_none (by simp [hp2, hp3]))) fun σ H R h => ?_
  obtain ⟨L, M, st, env, hE, hR, h⟩ := h
  refine ⟨L, M, st, env, hE, hR, ?_⟩
  have h2 := Run.bnd OkI.mono h
  obtain ⟨r, st1, e, q⟩ := h2
  refine ⟨r, st1, e, ?_⟩
  cases r with
  | ex x => exact q
  | ok ds =>
    have hl : ds.length = 3 := (evA_len as env st st1 ds e).trans h1
    intro M1 H1 vs e1 R1 v1
    have k := q M1 H1 e1
    split at k
    · simp at hl
    · simp at hl
    · rename_i i j
      split at k
      · rename_i hr
        have e0 := vls_int3 v1
        subst e0
        have hr' := Bool.and_eq_true_iff.mp hr
        exact ⟨i, j, -1, (i - j).toNat, rfl, .neg (okR_of hr'.1).1 (okR_of hr'.1).2 (okR_of hr'.2).1 (okR_of hr'.2).2, Run.ret k M1 H1 (Itc i (-1) (i - j).toNat) (.refl _ _) R1 (SrcR.rngC (K := X.K) (L := L) (M := M1) (H := H1) i (i - j).toNat)⟩
      · obtain ⟨_, z, _⟩ := Run.lft k; cases z
    · obtain ⟨_, z, _⟩ := Run.lft k; cases z
theorem la_one (hp : plE ea = true) (ha : SX cf X W a ea) : SA cf X W (.cons a .nil) [ea] := sa_cons hp ha sa_nil
theorem si_enm (hg : Gl X "enumerate") (hm : X.mg "enumerate" = none) (hp : plE ea = true) (ha : SX cf X W a ea) : SI cf X W (.Tuple elts kk tpos) (.enm a) (.Call (.Name "enumerate" p) [ea] [] pos) := by
  refine PI_mono (pi_enumK (ta := tCons (LX X.K X.mg W (evX cf a)) tNil) hg hm (pa_cons ha pa_nil (star_cons hp)) (star_cons hp)) fun σ H R h => ?_
  obtain ⟨L, M, st, env, hE, hR, h⟩ := h
  refine ⟨L, M, st, env, hE, hR, (Run.bnd OkI.mono h).mono fun st1 x k => OkE.of fun M1 H1 v e1 R1 v1 => ?_⟩
  obtain ⟨r, st', e, q⟩ := k M1 H1 e1
  dsimp only at e
  generalize x.val = d at e v1
  cases v1 with
  | tup h z => cases e; exact ⟨.t, _, _, rfl, h.sq, q M1 H1 _ (.refl _ _) R1 (.enm (k := .t) h z)⟩
  | lst h z => cases e; exact ⟨.l, _, _, rfl, h.sq, q M1 H1 _ (.refl _ _) R1 (.enm (k := .l) (.inl h) z)⟩
  | rol h z => cases e; exact ⟨.l, _, _, rfl, h.sq, q M1 H1 _ (.refl _ _) R1 (.enm (k := .l) (.inr h) z)⟩
  | _ => cases e
theorem si_zip (hg : Gl X "zip") (hm : X.mg "zip" = none) (hp : plE ea = true) (hp2 : plE eb = true) (ha : SX cf X W a ea) (hb : SX cf X W b eb) : SI cf X W (.Tuple elts kk tpos) (.zip a b) (.Call (.Name "zip" p) [ea, eb] [] pos) := by
  refine PI_mono (pi_zipK (ta := tCons (LX X.K X.mg W (evX cf a)) (tCons (LX X.K X.mg W (evX cf b)) tNil)) hg hm (pa_cons ha (pa_cons hb pa_nil (star_cons hp2)) (star_cons hp)) (star_cons hp) (star_none (by simp [hp2]))) fun σ H R h => ?_
  obtain ⟨L, M, st, env, hE, hR, h⟩ := h
  refine ⟨L, M, st, env, hE, hR, (Run.bnd OkI.mono h).mono fun st1 x k => OkE.of fun M1 H1 v e1 R1 v1 => ?_⟩
  refine ⟨L, M1, st1, env, hE.ext e1, R1, (Run.bnd OkI.mono (k M1 H1 e1)).mono fun st2 y k2 => OkE.of fun M2 H2 u e2 R2 v2 => ?_⟩
  obtain ⟨r, st', e, q⟩ := k2 M2 H2 e2
  dsimp only at e
  have v1 := v1.ext e2
  generalize x.val = d at e v1
  generalize y.val = d2 at e v2
  split at e
  · cases v1 with
    | tup h z =>
    cases v2 with
    | tup h2 z2 => cases e; exact ⟨.t, .t, _, _, _, _, rfl, h.sq, h2.sq, q M2 H2 _ (.refl _ _) R2 (.zip (k1 := .t) (k2 := .t) h z h2 z2)⟩
  · cases v1 with
    | lst h z =>
    cases v2 with
    | lst h2 z2 => cases e; exact ⟨.l, .l, _, _, _, _, rfl, h.sq, h2.sq, q M2 H2 _ (.refl _ _) R2 (.zip (k1 := .l) (k2 := .l) (.inl h) z (.inl h2) z2)⟩
  · cases v1 with
    | tup h z =>
    cases v2 with
    | lst h2 z2 => cases e; exact ⟨.t, .l, _, _, _, _, rfl, h.sq, h2.sq, q M2 H2 _ (.refl _ _) R2 (.zip (k1 := .t) (k2 := .l) h z (.inl h2) z2)⟩
  · cases v1 with
    | lst h z =>
    cases v2 with
    | tup h2 z2 => cases e; exact ⟨.l, .t, _, _, _, _, rfl, h.sq, h2.sq, q M2 H2 _ (.refl _ _) R2 (.zip (k1 := .l) (k2 := .t) (.inl h) z h2 z2)⟩
  · cases e
/-! list(range(..)), tuple(range(..)) -/
theorem okB_of {i : Int} (h : okB i = true) : -100000 ≤ i ∧ i ≤ 100000 := by
  simp only [okB, Bool.and_eq_true, decide_eq_true_eq] at h
  exact h
theorem vls_rng {K : PySem.W.Frag} {L M : List Addr} {H : Hp} (i j : Int) : Vls K L M H (rgV i j) (rngD i j) := by
  unfold rgV rngD
  generalize List.range (j - i).toNat = l
  induction l with
  | nil => exact .nil
  | cons k l ih => exact .cons (.int _) ih
theorem rng_end {L M : List Addr} {st : Store} {H : Hp} {Q : VK} {σ : St} {i j : Int} {tup : Bool} {e : E} (R1 : Rel X.K L M st H) (v1 : e = .v (.int j))
    (k : Run X.K X.mg L W σ (OkE X.K L Q) M H (match e with
      | .v (.int j) => if okB i && okB j then (if tup then ret (.v (.tup (rngD i j))) else ret (.f (rngD i j))) else lft none
      | _ => lft none) st) : RgOk i j ∧ ∀ q, H q = none → if tup then Q (.ref q) (upd H q (.tup (rgV i j))) else Q (.ref q) (upd H q (.lst (rgV i j))) := by
  subst v1
  dsimp only at k
  split at k
  · rename_i hb
    have hb := Bool.and_eq_true_iff.mp hb
    have h1 := okB_of hb.1
    have h2 := okB_of hb.2
    refine ⟨⟨by omega, by omega, by omega, by omega, by omega⟩, fun q hq => ?_⟩
    cases tup with
    | true => exact OkE.tup (Run.ret k) R1 (vls_rng i j) hq
    | false => exact OkE.new (Run.ret k) R1 (vls_rng i j) hq
  · obtain ⟨_, z, _⟩ := Run.lft k; cases z
theorem asInt {α : Type} {K : PySem.W.Frag} {mg : Str → Option Value} {L M : List Addr} {W : WX} {σ : St} {H : Hp} {st : Store} {Ok : List Addr → Hp → Store → α → Prop} {x : E} {f : Int → Cl.M α} (h : Run K mg L W σ Ok M H (match x with | .v (.int i) => f i | _ => lft none) st) :
    ∃ i, x = .v (.int i) ∧ Run K mg L W σ Ok M H (f i) st := by
  split at h
  · exact ⟨_, rfl, h⟩
  · obtain ⟨_, z, _⟩ := Run.lft h; cases z
theorem sx_rngS1 {tup : Bool} (hc : X.calm = true) (hgr : Gl X "range") (hmr : X.mg "range" = none) (hg : Gl X (if tup then "tuple" else "list")) (hm : X.mg (if tup then "tuple" else "list") = none) (hp : plE ea = true) (ha : SX cf X W a ea) {p2 pos2 : Pos} :
    SX cf X W (.rngS .no a tup) (.Call (.Name (if tup then "tuple" else "list") p2) [.Call (.Name "range" p) [ea] [] pos] [] pos2) := by
  have key : ∀ σ H Q, LX X.K X.mg W (evX cf (.rngS .no a tup)) σ H Q → LX X.K X.mg W (evX cf a) σ H fun x H1 => ∃ n, x = .int n ∧ (RgOk 0 n ∧ ∀ q, H1 q = none → if tup then Q (.ref q) (upd H1 q (.tup (rgV 0 n))) else Q (.ref q) (upd H1 q (.lst (rgV 0 n)))) := fun σ H Q h => by
    obtain ⟨L, M, st, env, hE, hR, h⟩ := h
    have h : Run X.K X.mg L W σ (OkE X.K L Q) M H (bnd (evX cf a env) fun h => match h with
      | .v (.int j) => if okB 0 && okB j then (if tup then ret (.v (.tup (rngD 0 j))) else ret (.f (rngD 0 j))) else lft none
      | _ => lft none) st := h
    refine ⟨L, M, st, env, hE, hR, (Run.bnd OkE.mono h).mono fun st1 x k => OkE.of fun M1 H1 v e1 R1 v1 => ?_⟩
    have k := k M1 H1 e1
    by_cases hx : ∃ j, x = .v (.int j)
    · obtain ⟨j, rfl⟩ := hx
      cases v1
      exact ⟨j, rfl, rng_end R1 rfl k⟩
    · split at k
      · exact absurd ⟨_, rfl⟩ hx
      · obtain ⟨_, z, _⟩ := Run.lft k; cases z
  cases tup with
  | true => exact PE_mono (pe_tupRg hc hg hm (prg_1 hgr hmr ha (star_cons hp)) rfl) key
  | false => exact PE_mono (pe_listRg hc hg hm (prg_1 hgr hmr ha (star_cons hp)) rfl) key
theorem sx_rngS2 {tup : Bool} (hc : X.calm = true) (hgr : Gl X "range") (hmr : X.mg "range" = none) (hg : Gl X (if tup then "tuple" else "list")) (hm : X.mg (if tup then "tuple" else "list") = none) (hp : plE ea = true) (hp2 : plE eb = true) (ha : SX cf X W a ea) (hb : SX cf X W b eb) {p2 pos2 : Pos} :
    SX cf X W (.rngS (.so a) b tup) (.Call (.Name (if tup then "tuple" else "list") p2) [.Call (.Name "range" p) [ea, eb] [] pos] [] pos2) := by
  have key : ∀ σ H Q, LX X.K X.mg W (evX cf (.rngS (.so a) b tup)) σ H Q → LX X.K X.mg W (evX cf a) σ H fun x H1 => LX X.K X.mg W (evX cf b) σ H1 fun y H2 => ∃ i j, x = .int i ∧ y = .int j ∧ (RgOk i j ∧ ∀ q, H2 q = none → if tup then Q (.ref q) (upd H2 q (.tup (rgV i j))) else Q (.ref q) (upd H2 q (.lst (rgV i j)))) := fun σ H Q h => by
    obtain ⟨L, M, st, env, hE, hR, h⟩ := h
    refine ⟨L, M, st, env, hE, hR, (Run.bnd later_mono (Run.bnd OkE.mono h)).mono fun st1 x k => OkE.of fun M1 H1 v e1 R1 v1 => ?_⟩
    have k := k M1 H1 e1
    obtain ⟨i, rfl, k⟩ := asInt (f := fun i => ret (some i)) k
    cases v1
    have k := Run.ret k M1 H1 (.refl _ _)
    refine ⟨L, M1, st1, env, hE.ext e1, R1, (Run.bnd OkE.mono k).mono fun st2 y k2 => OkE.of fun M2 H2 u e2 R2 v2 => ?_⟩
    have k2 := k2 M2 H2 e2
    obtain ⟨j, rfl, k2⟩ := asInt (f := fun j => if okB i && okB j then (if tup then ret (E.v (.tup (rngD i j))) else ret (E.f (rngD i j))) else lft none) k2
    cases v2
    exact ⟨i, j, rfl, rfl, rng_end R2 rfl k2⟩
  cases tup with
  | true => exact PE_mono (pe_tupRg hc hg hm (prg_2 hgr hmr ha hb (star_cons hp) (star_cons hp2) (star_none (by simp [hp2]))) rfl) key
  | false => exact PE_mono (pe_listRg hc hg hm (prg_2 hgr hmr ha hb (star_cons hp) (star_cons hp2) (star_none (by simp [hp2]))) rfl) key
end
end Cl

/-! Cl, part J: list comprehensions. -/
namespace Cl
open PySem L2

/-! ### a hidden place may change -/
section
variable {K : PySem.W.Frag} {L M M' : List Addr} {H H' : Hp} {a p : Addr} {vs : List V} {J : It} {src : Src} {st : Store} {k : SK} {o : O} {σ : St} {env : Env}
theorem TuF.agr (g : ∀ b, b ≠ p → H' b = H b) (h : TuF K (p :: L) M H a vs) : TuF K (p :: L) M H' a vs :=
  ⟨(g a fun e => h.2.2 (by rw [e]; exact List.mem_cons_self)).trans h.1, h.2⟩
theorem LsF.agr (g : ∀ b, b ≠ p → H' b = H b) (h : LsF K (p :: L) M H a vs) : LsF K (p :: L) M H' a vs :=
  ⟨(g a fun e => h.2.2 (by rw [e]; exact List.mem_cons_self)).trans h.1, h.2⟩
theorem RoF.agr (g : ∀ b, b ≠ p → H' b = H b) (h : RoF K (p :: L) M H a vs) : RoF K (p :: L) M H' a vs := by
  rcases h with ⟨⟨o, h⟩, n, l⟩ | h
  · exact .inl ⟨⟨o, (g a fun e => l (by rw [e]; exact List.mem_cons_self)).trans h⟩, n, l⟩
  · exact .inr h
mutual
theorem Val.agr (g : ∀ b, b ≠ p → H' b = H b) : ∀ {d : D} {v : V}, Val K (p :: L) M H v d → Val K (p :: L) M H' v d
  | .non, _, h => by cases h; exact .non
  | .bl _, _, h => by cases h; exact .bl _
  | .int _, _, h => by cases h; exact .int _
  | .str _, _, h => by cases h; exact .str _
  | .tup ds, _, h => by cases h with | tup h hs => exact .tup (h.agr g) (Vls.agr g hs)
  | .lst ds, _, h => by cases h with | lst h hs => exact .lst (h.agr g) (Vls.agr g hs)
  | .rol ds, _, h => by cases h with | rol h hs => exact .rol (h.agr g) (Vls.agr g hs)
  | .loc n, _, h => by cases h with | loc h => exact .loc h
theorem Vls.agr (g : ∀ b, b ≠ p → H' b = H b) : ∀ {ds : List D} {vs : List V}, Vls K (p :: L) M H vs ds → Vls K (p :: L) M H' vs ds
  | [], _, h => by cases h; exact .nil
  | d :: ds, _, h => by cases h with | cons h hs => exact .cons (Val.agr g h) (Vls.agr g hs)
end
theorem SqF.agr (g : ∀ b, b ≠ p → H' b = H b) (h : SqF K (p :: L) M H a k vs) : SqF K (p :: L) M H' a k vs := by
  cases k with
  | t => exact TuF.agr (K := K) g h
  | l => exact h.elim (fun z => .inl (z.agr g)) fun z => .inr (z.agr g)
theorem SrcR.agr (g : ∀ b, b ≠ p → H' b = H b) (h : SrcR K (p :: L) M H J src) : SrcR K (p :: L) M H' J src := by
  cases h with
  | tup h q => exact .tup (h.agr g) (q.agr g)
  | lst h q => exact .lst (h.agr g) (q.agr g)
  | «at» h => exact .at h
  | rng lo n => exact .rng lo n
  | rngC lo n => exact .rngC lo n
  | enm h q => exact .enm (h.agr g) (q.agr g)
  | zip h1 q1 h2 q2 => exact .zip (h1.agr g) (q1.agr g) (h2.agr g) (q2.agr g)
theorem KvR.agr {κ : Type} {ks : List (κ × V)} {kvs : List (κ × D)} (g : ∀ b, b ≠ p → H' b = H b) (h : KvR K (p :: L) M H ks kvs) : KvR K (p :: L) M H' ks kvs := Paired.mapP h fun _ _ z => ⟨z.1, z.2.agr g⟩
theorem KvR.show {κ : Type} {ks : List (κ × V)} {kvs : List (κ × D)} (h : KvR K (p :: L) M H ks kvs) : KvR K L M H ks kvs := Paired.mapP h fun _ _ z => ⟨z.1, z.2.show⟩
theorem ObjR.agr (g : ∀ b, b ≠ p → H' b = H b) (n : a ≠ p) (h : ObjR K (p :: L) M H a o) : ObjR K (p :: L) M H' a o := by
  cases o with
  | lst ds => obtain ⟨vs, q, r⟩ := h; exact ⟨vs, (g a n).trans q, r.agr g⟩
  | dK kvs => obtain ⟨vs, q, r⟩ := h; exact ⟨vs, (g a n).trans q, r.agr g⟩
  | dT kvs => obtain ⟨vs, q, r⟩ := h; exact ⟨vs, (g a n).trans q, r.agr g⟩
theorem ObjR.show (h : ObjR K (p :: L) M H a o) : ObjR K L M H a o := by
  cases o with
  | lst ds => obtain ⟨vs, q, r⟩ := h; exact ⟨vs, q, r.show⟩
  | dK kvs => obtain ⟨vs, q, r⟩ := h; exact ⟨vs, q, r.show⟩
  | dT kvs => obtain ⟨vs, q, r⟩ := h; exact ⟨vs, q, r.show⟩
theorem KvR.hide {κ : Type} {ks : List (κ × V)} {kvs : List (κ × D)} (hp : H p = none) (h : KvR K L M H ks kvs) : KvR K (p :: L) M H ks kvs := Paired.mapP h fun _ _ z => ⟨z.1, z.2.hide hp⟩
theorem ObjR.hide (hp : H p = none) (h : ObjR K L M H a o) : ObjR K (p :: L) M H a o := by
  cases o with
  | lst ds => obtain ⟨vs, q, r⟩ := h; exact ⟨vs, q, r.hide hp⟩
  | dK kvs => obtain ⟨vs, q, r⟩ := h; exact ⟨vs, q, r.hide hp⟩
  | dT kvs => obtain ⟨vs, q, r⟩ := h; exact ⟨vs, q, r.hide hp⟩
theorem Rel.agr (g : ∀ b, b ≠ p → H' b = H b) (hp : H' p ≠ none) (r : Rel K (p :: L) M st H) : Rel K (p :: L) M st H' := by
  refine ⟨r.len, r.nd, fun n a o e z => (r.obj n a o e z).agr g fun c => (r.hid p List.mem_cons_self).1 (c ▸ List.mem_of_getElem? e), fun a ha => ⟨(r.hid a ha).1, fun z => ?_⟩⟩
  by_cases c : a = p
  · subst c; exact hp z
  · rw [g a c] at z; exact (r.hid a ha).2 z
theorem RelE.agr (g : ∀ b, b ≠ p → H' b = H b) (h : RelE K (p :: L) M H σ env) : RelE K (p :: L) M H' σ env := ⟨h.1, fun i d q => let ⟨v, a, b⟩ := h.2 i d q; ⟨v, a, b.agr g⟩⟩
/-- a new place, hidden -/
theorem Rel.hideNew {u : HO} (r : Rel K L M st H) (hp : H p = none) : Rel K (p :: L) M st (upd H p u) := by
  refine ⟨r.len, r.nd, fun n a o e z => ?_, fun a ha => ?_⟩
  · have w := (r.obj n a o e z).hide hp
    obtain ⟨x, hx⟩ := (r.obj n a o e z).there
    exact w.same (.new hp (r.fresh hp)) (upd_ne (ne_of_none hx hp))
  · rcases List.mem_cons.mp ha with c | ha
    · subst c; exact ⟨r.fresh hp, by rw [upd_same]; exact Option.some_ne_none _⟩
    · refine ⟨(r.hid a ha).1, fun z => ?_⟩
      by_cases c : a = p
      · exact (r.hid a ha).2 (by rw [c]; exact hp)
      · rw [upd_ne c] at z; exact (r.hid a ha).2 z
/-- the heap without a place -/
def delH (H : Hp) (p : Addr) : Hp := fun a => if a = p then none else H a
theorem delH_same : delH H p p = none := if_pos rfl
theorem delH_ne {b : Addr} (h : b ≠ p) : delH H p b = H b := if_neg h
theorem delH_upd {u : HO} (h : H p = some u) : upd (delH H p) p u = H := by
  funext b
  by_cases c : b = p
  · subst c; rw [upd_same, h]
  · rw [upd_ne c, delH_ne c]
theorem Rel.del (r : Rel K (p :: L) M st H) (hL : p ∉ L) : Rel K L M st (delH H p) := by
  refine ⟨r.len, r.nd, fun n a o e z => ((r.obj n a o e z).agr (H' := delH H p) (fun b c => delH_ne c) fun (c : a = p) => (r.hid p List.mem_cons_self).1 (c ▸ List.mem_of_getElem? e)).show, fun a ha => ⟨(r.hid a (List.mem_cons_of_mem _ ha)).1, fun z => ?_⟩⟩
  have c : a ≠ p := fun c => hL (c ▸ ha)
  rw [delH_ne c] at z
  exact (r.hid a (List.mem_cons_of_mem _ ha)).2 z
theorem Vls.del {ds : List D} (h : Vls K (p :: L) M H vs ds) : Vls K L M (delH H p) vs ds := (h.agr fun b c => delH_ne c).show
end
theorem wipe_len {σ : St} {vs : List Nat} : (wipe σ vs).length = σ.length := wipe_length σ vs
theorem wipe_get : ∀ (vs : List Nat) (σ : St) (i : Nat), i < σ.length → (wipe σ vs)[i]? = if i ∈ vs then some none else σ[i]?
  | [], σ, i, _ => by simp [wipe]
  | v :: vs, σ, i, h => by
    unfold wipe
    by_cases c : v = i
    · subst c
      rw [List.getElem?_set_self (by rw [wipe_length]; exact h), if_pos List.mem_cons_self]
    · rw [List.getElem?_set_ne c, wipe_get vs σ i h]
      have : (i ∈ v :: vs) ↔ i ∈ vs := ⟨fun z => (List.mem_cons.mp z).elim (fun z => absurd z.symm c) id, List.mem_cons_of_mem _⟩
      simp only [this]
theorem wipe_idem (vs : List Nat) (σ : St) : wipe (wipe σ vs) vs = wipe σ vs := by
  apply List.ext_getElem?
  intro i
  by_cases h : i < σ.length
  · rw [wipe_get vs _ i (by rw [wipe_length]; exact h), wipe_get vs σ i h]
    split <;> rfl
  · rw [List.getElem?_eq_none (by rw [wipe_length, wipe_length]; omega), List.getElem?_eq_none (by rw [wipe_length]; omega)]

/-! ### the rule -/
/-- no raise within -/
def W0 : WX := fun _ _ _ _ => False
abbrev SC (cf : CF) (X : Cx) (c : CO) (es : List Expr) : Prop := PTs X es (LT X.K X.mg W0 (evC cf c))
theorem PTs_mono {X : Cx} {e : List Expr} {t t' : TT} (h : PTs X e t) (m : ∀ σ H Q, t' σ H Q → t σ H Q) : PTs X e t' := ⟨fun pins s σ H Q I q => h.run pins s σ H Q I (m σ H Q q)⟩
theorem sc_no {cf : CF} {X : Cx} : SC cf X .no [] := PTs_mono pts_nil fun σ H Q ⟨L, M, st, env, hE, hR, h⟩ => Run.ret h M H (.refl _ _) hR
theorem sc_so {cf : CF} {X : Cx} {a : CE} {ea : Expr} (h : ST cf X W0 a ea) : SC cf X (.so a) [ea] := PTs_mono (pts_one h) fun σ H Q h => h
theorem ext_len {K : PySem.W.Frag} {L M M' : List Addr} {H H' : Hp} {st : Store} (e : Ext M H M' H') (r : Rel K L M' st H') (h : st.length = M.length) : M' = M := by
  obtain ⟨t, rfl⟩ := e.pre
  have z := r.len
  rw [List.length_append] at z
  have : t.length = 0 := by omega
  rw [List.length_eq_zero_iff.mp this, List.append_nil]
section
variable {cf : CF} {X : Cx} {W : WX}
@[simp] def turnC (cf : CF) (g : CT) (ifs : CO) (elt : CE) (env : Env) (d : D) (st1 : Store) : Option (Option D × Store) := match bdT cf g d env st1 with
  | some (.ok env1, st2) => match evC cf ifs env1 st2 with
    | some (.ok true, st3) => match (ev cf elt env1).x st3 with
      | some (.ok x, st4) => some (some x.val, st4)
      | _ => none
    | some (.ok false, st3) => some (none, st3)
    | _ => none
  | _ => none
theorem lc_of {g : CT} {it : CI} {ifs : CO} {elt : CE} {own : List Nat} (hg : ∀ i ∈ namesT g, i ∈ own) {σ : St} {H : Hp} {Q : VK} (h : LX X.K X.mg W (evX cf (.comp g it ifs elt own)) σ H Q) :
    tLc (LI X.K X.mg W (evI cf it)) (LGt X.K (namesT g) (bdT cf g)) (LT X.K X.mg W0 (evC cf ifs)) (LX X.K X.mg W0 (evX cf elt)) own σ H Q := by
  obtain ⟨L, M, st, env, hE, hR, h⟩ := h
  have h : Run X.K X.mg L W σ (OkE X.K L Q) M H (bnd (evI cf it env) fun src => fun st => match compGo src st.length (turnC cf g ifs elt (wipeE env own)) src.items [] st with
      | some (ds, st1) => some (.ok (.f ds), st1)
      | none => none) st := h
  refine ⟨L, M, st, env, hE, hR, (Run.bnd OkE.mono h).mono fun st1 src k => ?_⟩
  intro M1 H1 J e1 R1 sr D hD
  obtain ⟨r, st', e, q⟩ := k M1 H1 e1
  have hx : ∃ ds stE, compGo src st1.length (turnC cf g ifs elt (wipeE env own)) src.items [] st1 = some (ds, stE) ∧ r = .ok (.f ds) ∧ st' = stE := by
    simp only at e
    split at e
    · rename_i hgo; cases e; exact ⟨_, _, hgo, rfl, rfl⟩
    · cases e
  obtain ⟨ds, stE, hgo, rfl, rfl⟩ := hx
  have q : OkE X.K L Q M1 H1 st' (.f ds) := q
  have E1 := hE.ext e1
  have hDM := R1.fresh hD
  have hDL := R1.freshL hD
  refine ⟨fun i m H' => ∃ sti va da, m = src.items.length - i ∧ i ≤ src.items.length ∧ RelE X.K (D :: L) M1 H' (wipe σ own) (wipeE env own) ∧ Rel X.K (D :: L) M1 sti H' ∧ SrcR X.K (D :: L) M1 H' J src ∧ H' D = some (.lst va) ∧ Vls X.K (D :: L) M1 H' va da ∧ (∀ b o, H1 b = some o → b ∉ M1 → H' b = some o) ∧ sti.length = st1.length ∧ compGo src st1.length (turnC cf g ifs elt (wipeE env own)) (src.items.drop i) da sti = some (ds, st'), ?_, ?_⟩
  · have nw : Ext M1 H1 M1 (upd H1 D (.lst [])) := .new hD hDM
    exact ⟨_, st1, [], [], rfl, Nat.zero_le _, ((E1.hide hD).ext nw).wipe own, R1.hideNew hD, (sr.hide hD).ext nw, upd_same, .nil, fun b o e n => (nw.keep b o e n).1, rfl, by simpa using hgo⟩
  · rintro i m H' ⟨sti, va, da, rfl, hi, E2, R2, s2, hd, hv, kp, hl, go2⟩
    by_cases hlt : i < src.items.length
    · -- a turn
      rw [List.drop_eq_getElem_cons hlt] at go2
      unfold compGo at go2
      split at go2
      case isFalse => cases go2
      rename_i hok
      refine .inr ⟨s2.go R2 hok.1 hlt, fun H3 => ∃ sti va da, i + 1 ≤ src.items.length ∧ RelE X.K (D :: L) M1 H3 (wipe σ own) (wipeE env own) ∧ Rel X.K (D :: L) M1 sti H3 ∧ SrcR X.K (D :: L) M1 H3 J src ∧ H3 D = some (.lst va) ∧ Vls X.K (D :: L) M1 H3 va da ∧ (∀ b o, H1 b = some o → b ∉ M1 → H3 b = some o) ∧ sti.length = st1.length ∧ compGo src st1.length (turnC cf g ifs elt (wipeE env own)) (src.items.drop (i + 1)) da sti = some (ds, st'), ?_, ?_⟩
      · rintro H3 ⟨s, va, da, z⟩
        exact ⟨src.items.length - (i + 1), by omega, s, va, da, rfl, z⟩
      · intro x H3 y
        obtain ⟨e3, R3, v3⟩ := s2.yld R2 hok.1 (List.getElem?_eq_getElem hlt) y
        have hd3 := (e3.keep D _ hd (R2.hid D List.mem_cons_self).1).1
        cases ht : turnC cf g ifs elt (wipeE env own) src.items[i] sti with
        | none => rw [ht] at go2; cases go2
        | some tp =>
        obtain ⟨to, st9⟩ := tp
        rw [ht] at go2
        -- what is kept to a later heap of this turn
        have keep : ∀ {M4 : List Addr} {H4 : Hp} {st4 : Store}, Ext M1 H3 M4 H4 → Rel X.K (D :: L) M4 st4 H4 → st4.length = st1.length →
            M4 = M1 ∧ RelE X.K (D :: L) M1 H4 (wipe σ own) (wipeE env own) ∧ SrcR X.K (D :: L) M1 H4 J src ∧ H4 D = some (.lst va) ∧ Vls X.K (D :: L) M1 H4 va da ∧ (∀ b o, H1 b = some o → b ∉ M1 → H4 b = some o) := fun {M4 H4 st4} e4 R4 l4 => by
          have eM : M4 = M1 := ext_len e4 R4 (by rw [l4, ← R1.len])
          subst eM
          exact ⟨rfl, (E2.ext e3).ext e4, (s2.ext e3).ext e4, (e4.keep D _ hd3 (R2.hid D List.mem_cons_self).1).1, (hv.ext e3).ext e4, fun b o e n => (e4.keep b o (e3.keep b o (kp b o e n) n).1 n).1⟩
        unfold turnC at ht
        split at ht
        case h_2 => cases ht
        rename_i env1 st2 hb
        refine ⟨D :: L, M1, sti, wipeE env own, src.items[i], env1, st2, E2.ext e3, R3, v3, hb, fun M4 H4 σ4 e4 R4 E4 w4 => ?_⟩
        refine ⟨(w4 own hg).trans (wipe_idem own σ), ?_⟩
        split at ht
        case h_3 => cases ht
        · rename_i st3 hc
          refine ⟨D :: L, M4, st2, env1, E4, R4, .ok true, st3, hc, fun M5 H5 e5 R5 => ?_⟩
          simp only [if_true]
          split at ht
          case h_2 => cases ht
          rename_i xe st4 hx
          cases ht
          refine ⟨D :: L, M5, st3, env1, E4.ext e5, R5, .ok xe, _, hx, OkE.of fun M6 H6 v e6 R6 v6 => ?_⟩
          simp only at go2
          split at go2
          case isFalse => cases go2
          rename_i hlen
          obtain ⟨rfl, k1, k2, k3, k4, k5⟩ := keep ((e4.trans e5).trans e6) R6 hlen
          have ag : ∀ b, b ≠ D → upd H6 D (.lst (va ++ [v])) b = H6 b := fun b c => upd_ne c
          refine ⟨va, k3, ?_, _, va ++ [v], da ++ [xe.val], hlt, k1.agr ag, R6.agr ag (by rw [upd_same]; exact Option.some_ne_none _), k2.agr ag, upd_same, (k4.append (.cons v6 .nil)).agr ag, fun b o e n => ?_, hlen, go2⟩
          · rw [hv.length]
            exact Nat.lt_of_lt_of_le hok.2 (by decide)
          · rw [ag b (ne_of_none e hD)]
            exact k5 b o e n
        · rename_i st3 hc
          cases ht
          refine ⟨D :: L, M4, st2, env1, E4, R4, .ok false, st9, hc, fun M5 H5 e5 R5 => ?_⟩
          simp only [Bool.false_eq_true, if_false]
          simp only at go2
          split at go2
          case isFalse => cases go2
          rename_i hlen
          obtain ⟨rfl, k1, k2, k3, k4, k5⟩ := keep (e4.trans e5) R5 hlen
          exact ⟨_, va, da, hlt, k1, R5, k2, k3, k4, k5, hlen, go2⟩
    · -- the end
      have hi' : i = src.items.length := by omega
      subst hi'
      rw [List.drop_length] at go2
      unfold compGo at go2
      split at go2
      case isFalse => cases go2
      rename_i hok
      cases go2
      refine .inl ⟨s2.stop R2 hok, ?_⟩
      have key := q M1 (delH H' D) D va ⟨⟨[], by simp⟩, fun b o e n => ⟨?_, n⟩⟩ (R2.del hDL) hv.del delH_same
      · rw [delH_upd hd] at key
        exact key
      · rw [delH_ne (ne_of_none e hD)]
        exact kp b o e n
/-- a comprehension as a value -/
theorem sx_comp {elt tg iter : Expr} {ifs : List Expr} {scope : Scope} {own : List (Str × Nat)} {pos : Pos} {g : CT} {it : CI} {co : CO} {c : CE} (hc : X.calm = true) (hN : X.N.Nodup) (hi : SI cf X W tg it iter) (ok : blkC X.N X.env.scope scope own = true)
    (hg : ∀ (s : Shared) (H : Hp) (C : Addr) (cl : List (Str × Addr)) (fp : List Addr), SG cf (X.blk s H scope (compEnvC scope cl C X.env) fp) g tg)
    (ht : ∀ (s : Shared) (H : Hp) (C : Addr) (cl : List (Str × Addr)) (fp : List Addr), SC cf (X.blk s H scope (compEnvC scope cl C X.env) fp) co ifs)
    (he : ∀ (s : Shared) (H : Hp) (C : Addr) (cl : List (Str × Addr)) (fp : List Addr), SX cf (X.blk s H scope (compEnvC scope cl C X.env) fp) W0 c elt)
    (hs : ∀ x, foldedSetIterable iter X.env x = pure x) (hn : ∀ i ∈ namesT g, i ∈ own.map (·.2)) : SX cf X W (.comp g it co c (own.map (·.2))) (.ListComp elt [⟨tg, iter, ifs, 0⟩] scope pos) :=
  PE_mono (pe_lc hc hN hi (blkOk_by ok) hg ht he hs) fun σ H Q h => lc_of hn h
end
end Cl

/-! Cl, part K: statements. -/
namespace Cl
open PySem L2

section
variable (K : PySem.W.Frag) (mg : Str → Option Value) (L : List Addr) (W : WX)
/-- what an end of statements promises -/
def OkS (N : Ends) (M : List Addr) (H : Hp) : Out → Prop
  | .nx env st => ∀ M' H' σ', Ext M H M' H' → Rel K L M' st H' → RelE K L M' H' σ' env → N.nx σ' H'
  | .bk env st => ∀ M' H' σ', Ext M H M' H' → Rel K L M' st H' → RelE K L M' H' σ' env → N.bk σ' H'
  | .ct env st => ∀ M' H' σ', Ext M H M' H' → Rel K L M' st H' → RelE K L M' H' σ' env → N.ct σ' H'
  | .rt d st => ∀ M' H' v, Ext M H M' H' → Rel K L M' st H' → Val K L M' H' v d → N.rt v H'
  | .ex x env st => ∀ M' H' σ' cls dd, Ext M H M' H' → Rel K L M' st H' → RelE K L M' H' σ' env → XVal K mg L M' H' cls dd x → W cls dd σ' H'
def LS (f : Env → Store → Option Out) : TS := fun N σ H => ∃ L M st env o, RelE K L M H σ env ∧ Rel K L M st H ∧ f env st = some o ∧ OkS K mg L W N M H o
end
abbrev SS (cf : CF) (X : Cx) (W : WX) (c : CS) (s : Stmt) : Prop := PS X s (LS X.K X.mg W (evS cf c))
abbrev SSs (cf : CF) (X : Cx) (W : WX) (c : CSs) (s : List Stmt) : Prop := PSs X s (LS X.K X.mg W (evSs cf c))
theorem PS_mono {X : Cx} {e : Stmt} {t t' : TS} (h : PS X e t) (m : ∀ N σ H, t' N σ H → t N σ H) : PS X e t' := ⟨fun pins s σ H N I q => h.run pins s σ H N I (m N σ H q)⟩
theorem PSs_mono {X : Cx} {e : List Stmt} {t t' : TS} (h : PSs X e t) (m : ∀ N σ H, t' N σ H → t N σ H) : PSs X e t' := ⟨fun pins s σ H N I q => h.run pins s σ H N I (m N σ H q)⟩
section
variable {K : PySem.W.Frag} {mg : Str → Option Value} {L : List Addr} {W : WX} {σ : St} {M M1 : List Addr} {H H1 : Hp} {st : Store} {env : Env} {N : Ends} {o : Out} {α : Type}
theorem OkS.mono (e : Ext M H M1 H1) (h : OkS K mg L W N M H o) : OkS K mg L W N M1 H1 o := by
  cases o with
  | nx env st => exact fun M' H' σ' e' => h M' H' σ' (e.trans e')
  | bk env st => exact fun M' H' σ' e' => h M' H' σ' (e.trans e')
  | ct env st => exact fun M' H' σ' e' => h M' H' σ' (e.trans e')
  | rt d st => exact fun M' H' σ' e' => h M' H' σ' (e.trans e')
  | ex x env st => exact fun M' H' σ' c d e' => h M' H' σ' c d (e.trans e')
/-- a step, then what is done with what it gave -/
theorem thnS_run {m : Cl.M α} {k : α → Store → Option Out} (hE : RelE K L M H σ env) (h : thnS m env st k = some o) (q : OkS K mg L W N M H o) :
    Run K mg L W σ (fun M' H' st1 a => ∀ M1 H1, Ext M' H' M1 H1 → ∃ o, k a st1 = some o ∧ OkS K mg L W N M1 H1 o) M H m st := by
  unfold thnS at h
  split at h
  · rename_i a st1 he
    exact ⟨.ok a, st1, he, fun M1 H1 e => ⟨o, h, q.mono e⟩⟩
  · rename_i x st1 he
    cases h
    exact ⟨.ex x, st1, he, fun M' H' cls dd e r v => q M' H' σ cls dd e r (hE.ext e) v⟩
  · cases h
end
section
variable {cf : CF} {X : Cx} {W : WX} {a b c : CE} {ea eb ec : Expr} {pos p : Pos} {s : Stmt} {ss rs : List Stmt} {cs : CS} {ks ls : CSs}
theorem ss_nil : SSs cf X W .nil [] := PSs_mono pss_nil fun N σ H ⟨L, M, st, env, o, hE, hR, e, q⟩ => by
  cases e
  exact q M H σ (.refl _ _) hR hE
theorem ss_cons (h1 : SS cf X W cs s) (h2 : SSs cf X W ks ss) : SSs cf X W (.cons cs ks) (s :: ss) := PSs_mono (pss_cons h1 h2) fun N σ H ⟨L, M, st, env, o, hE, hR, e, q⟩ => by
  have e : (match evS cf cs env st with
    | some (.nx env1 st1) => evSs cf ks env1 st1
    | o => o) = some o := e
  split at e
  · rename_i env1 st1 h
    exact ⟨L, M, st, env, _, hE, hR, h, fun M' H' σ' x r rE => ⟨L, M', st1, env1, o, rE, r, e, q.mono x⟩⟩
  · rename_i hn
    refine ⟨L, M, st, env, o, hE, hR, e, ?_⟩
    cases o with
    | nx env1 st1 => exact absurd e (hn env1 st1)
    | bk env st => exact q
    | ct env st => exact q
    | rt d st => exact q
    | ex x env st => exact q
theorem ss_one (h1 : SS cf X W cs s) : SSs cf X W (.cons cs .nil) [s] := ss_cons h1 ss_nil
theorem ss_pass : SS cf X W .pass (.Pass pos) := PS_mono ps_pass fun N σ H ⟨L, M, st, env, o, hE, hR, e, q⟩ => by
  cases e; exact q M H σ (.refl _ _) hR hE
theorem ss_brk : SS cf X W .brk (.Break pos) := PS_mono ps_break fun N σ H ⟨L, M, st, env, o, hE, hR, e, q⟩ => by
  cases e; exact q M H σ (.refl _ _) hR hE
theorem ss_cnt : SS cf X W .cnt (.Continue pos) := PS_mono ps_continue fun N σ H ⟨L, M, st, env, o, hE, hR, e, q⟩ => by
  cases e; exact q M H σ (.refl _ _) hR hE
theorem ss_retN : SS cf X W .retN (.Return none pos) := PS_mono ps_retN fun N σ H ⟨L, M, st, env, o, hE, hR, e, q⟩ => by
  cases e; exact q M H .non (.refl _ _) hR .non
theorem ss_ret (ha : SX cf X W a ea) : SS cf X W (.ret a) (.Return (some ea) pos) := PS_mono (ps_ret ha) fun N σ H ⟨L, M, st, env, o, hE, hR, e, q⟩ => by
  refine ⟨L, M, st, env, hE, hR, (thnS_run (m := evX cf a env) (k := fun x st1 => some (.rt x.val st1)) hE e q).mono fun st1 x k => OkE.of fun M1 H1 v e1 R1 v1 => ?_⟩
  obtain ⟨o, ho, q⟩ := k M1 H1 e1
  cases ho
  exact q M1 H1 v (.refl _ _) R1 v1
theorem ss_drop (ha : SX cf X W a ea) (hs : swapsWith ea none pos.line X.env = pure false) : SS cf X W (.drop a) (.Expr ea pos) := PS_mono (ps_expr ha hs) fun N σ H ⟨L, M, st, env, o, hE, hR, e, q⟩ => by
  refine ⟨L, M, st, env, hE, hR, (thnS_run (m := evX cf a env) (k := fun x st1 => some (.nx env st1)) hE e q).mono fun st1 x k => OkE.of fun M1 H1 v e1 R1 v1 => ?_⟩
  obtain ⟨o, ho, q⟩ := k M1 H1 e1
  cases ho
  exact q M1 H1 σ (.refl _ _) R1 (hE.ext e1)
theorem ss_ite (ha : ST cf X W a ea) (hb : SSs cf X W ks ss) (hc : SSs cf X W ls rs) : SS cf X W (.ite a ks ls) (.If ea ss rs pos) := PS_mono (ps_if ha hb hc) fun N σ H ⟨L, M, st, env, o, hE, hR, e, q⟩ => by
  refine ⟨L, M, st, env, hE, hR, (thnS_run (m := evT cf a env) (k := fun c st1 => if c then evSs cf ks env st1 else evSs cf ls env st1) hE e q).mono fun st1 c k => fun M1 H1 e1 R1 => ?_⟩
  obtain ⟨o, ho, q⟩ := k M1 H1 e1
  cases c with
  | true => exact ⟨L, M1, st1, env, o, hE.ext e1, R1, ho, q⟩
  | false => exact ⟨L, M1, st1, env, o, hE.ext e1, R1, ho, q⟩
/-- the store of a value at a target -/
theorem asg_end {g : CT} {N : Ends} {L M : List Addr} {H : Hp} {st : Store} {env : Env} {σ : St} {d : D} {v : V} {o : Out} (hE : RelE X.K L M H σ env) (hR : Rel X.K L M st H) (hv : Val X.K L M H v d)
    (e : (match bdT cf g d env st with | some (.ok env1, st2) => some (Out.nx env1 st2) | _ => none) = some o) (q : OkS X.K X.mg L W N M H o) : LGt X.K (namesT g) (bdT cf g) v σ H N.nx := by
  split at e
  · rename_i env1 st2 h
    cases e
    exact ⟨L, M, st, env, d, env1, st2, hE, hR, hv, h, fun M' H' σ' x r rE _ => q M' H' σ' x r rE⟩
  · cases e
theorem tasg {g : CT} {tb : TG} (hg : ∀ v σ H Q, LGt X.K (namesT g) (bdT cf g) v σ H Q → tb v σ H Q) {N : Ends} {σ : St} {H : Hp} (h : LS X.K X.mg W (evS cf (.asg g a)) N σ H) : tAsg (LX X.K X.mg W (evX cf a)) tb N σ H := by
  obtain ⟨L, M, st, env, o, hE, hR, e, q⟩ := h
  refine ⟨L, M, st, env, hE, hR, (thnS_run (m := evX cf a env) (k := fun x st1 => match bdT cf g x.val env st1 with | some (.ok env1, st2) => some (.nx env1 st2) | _ => none) hE e q).mono fun st1 x k => OkE.of fun M1 H1 v e1 R1 v1 => ?_⟩
  obtain ⟨o, ho, q⟩ := k M1 H1 e1
  exact hg _ _ _ _ (asg_end (hE.ext e1) R1 v1 ho q)
theorem ss_asgN {i : Nat} {x : Str} {pos' : Pos} (hN : X.N.Nodup) (hi : X.N[i]? = some x) (hx : Loc X.env.scope x) (hf : X.fn x = true ∨ X.env.scope.names.lookup x = some .local) (ha : SX cf X W a ea) (hs : swapsWith ea (some (.Name x pos')) pos.line X.env = pure false) :
    SS cf X W (.asg (.nm i) a) (.Assign [.Name x pos'] ea pos) := PS_mono (ps_set hN hi hx ha hs hf) fun N σ H h => tasg (g := .nm i) (fun v σ H Q ⟨L, M, st, env, d, env', st', hE, hR, q, e, k⟩ => by
  simp only [bdT] at e
  split at e
  · cases e
    exact k M H _ (.refl _ _) hR (hE.set q) fun vs hv => wipe_set _ vs σ i (hv i (by simp [namesT]))
  · cases e) h
theorem ss_asg {t : CT} {et : Expr} (hg : SG cf X t et) (ha : SX cf X W a ea) (hs : swapsWithSole [et] ea pos.line X.env = pure false) (hw : swappedStores [et] ea X.env = pure none) (h1 : (assignEach [et] X.env).map (·.2) = [assign et X.env]) :
    SS cf X W (.asg t a) (.Assign [et] ea pos) := PS_mono (ps_asg ha hg hs hw h1) fun N σ H h => tasg (g := t) (fun v σ H Q h => h) h
/-- name = [.. for ..], on one line -/
theorem ss_asgLc {elt tg iter : Expr} {ifs : List Expr} {scope : Scope} {own : List (Str × Nat)} {pos spos py : Pos} {g : CT} {it : CI} {co : CO} {ce : CE} {i : Nat} {y : Str} {ad : Bool} (hc : X.calm = true) (hN : X.N.Nodup) (hy : X.N[i]? = some y) (hyl : X.env.scope.names.lookup y = some .local)
    (hsw : swapsWith (.ListComp elt [⟨tg, iter, ifs, 0⟩] scope pos) (some (.Name y py)) spos.line X.env = pure true) (hi : SI cf X W tg it iter) (ok : blkC X.N X.env.scope scope own = true)
    (hg : ∀ (s : Shared) (H : Hp) (C : Addr) (cl : List (Str × Addr)) (fp : List Addr), SG cf (X.blk s H scope (compEnvC scope cl C X.env) fp) g tg)
    (ht : ∀ (s : Shared) (H : Hp) (C : Addr) (cl : List (Str × Addr)) (fp : List Addr), SC cf (X.blk s H scope (compEnvC scope cl C X.env) fp) co ifs)
    (he : ∀ (s : Shared) (H : Hp) (C : Addr) (cl : List (Str × Addr)) (fp : List Addr), SX cf (X.blk s H scope (compEnvC scope cl C X.env) fp) W0 ce elt)
    (hs : ∀ x, foldedSetIterable iter X.env x = pure x) (hn : ∀ i ∈ namesT g, i ∈ own.map (·.2)) :
    SS cf X W (.asg (.nm i) (if ad then .adopt (.comp g it co ce (own.map (·.2))) else .comp g it co ce (own.map (·.2)))) (.Assign [.Name y py] (.ListComp elt [⟨tg, iter, ifs, 0⟩] scope pos) spos) :=
  PS_mono (ps_setLc hc hN hy hyl hsw hi (blkOk_by ok) hg ht he hs) fun N σ H h => by
    have h := tasg (g := .nm i) (tb := gName i) (fun v σ H Q ⟨L, M, st, env, d, env', st', hE, hR, q, e, k⟩ => by
      simp only [bdT] at e
      split at e
      · cases e
        exact k M H _ (.refl _ _) hR (hE.set q) fun vs hv => wipe_set _ vs σ i (hv i (by simp [namesT]))
      · cases e) h
    cases ad with
    | false => exact lc_of hn h
    | true =>
      refine lc_of hn ?_
      obtain ⟨L, M, st, env, hE, hR, h⟩ := h
      refine ⟨L, M, st, env, hE, hR, (Run.bnd OkE.mono h).mono fun st1 x k => ?_⟩
      cases x with
      | v d =>
        refine OkE.of fun M1 H1 v e1 R1 v1 => ?_
        obtain ⟨_, z, _⟩ := Run.lft (k M1 H1 e1)
        cases z
      | f ds =>
        intro M1 H1 p vs e1 R1 v1 hp
        obtain ⟨r, st', e, q⟩ := k M1 H1 e1
        cases e
        exact q _ _ _ (.adopt hp (R1.fresh hp)) (R1.adopt hp v1) (.loc (by rw [← R1.len]; simp))
theorem ss_par {i j : Nat} {x y : Str} {px py pt : Pos} {kt k2 : Nat} {pt2 : Pos} (hc : X.calm = true) (hN : X.N.Nodup) (hi : X.N[i]? = some x) (hj : X.N[j]? = some y) (hij : i ≠ j)
    (hx : X.env.scope.names.lookup x = some .local) (hy : X.env.scope.names.lookup y = some .local) (hpa : plE ea = true) (hpb : plE eb = true) (ha : SX cf X W a ea) (hb : SX cf X W b eb)
    (hw : swappedStores [.Tuple [.Name x px, .Name y py] kt pt] (.Tuple [ea, eb] k2 pt2) X.env = pure (some [x, y])) :
    SS cf X W (.par i j a b) (.Assign [.Tuple [.Name x px, .Name y py] kt pt] (.Tuple [ea, eb] k2 pt2) pos) := by
  refine PS_mono (ps_par hc hN hi hj hij hx hy (pa_cons ha (pa_cons hb pa_nil (star_cons hpb)) (star_cons hpa)) hw rfl) fun N σ H h => ?_
  obtain ⟨L, M, st, env, o, hE, hR, e, q⟩ := h
  refine ⟨L, M, st, env, hE, hR, (thnS_run (m := evX cf a env) (k := fun x st1 => thnS (evX cf b env) env st1 fun y st2 => if i < env.length ∧ j < env.length then some (.nx ((env.set i (some x.val)).set j (some y.val)) st2) else none) hE e q).mono fun st1 x k => OkE.of fun M1 H1 v e1 R1 v1 => ?_⟩
  obtain ⟨o, ho, q⟩ := k M1 H1 e1
  refine ⟨L, M1, st1, env, hE.ext e1, R1, (thnS_run (hE.ext e1) ho q).mono fun st2 y k => OkE.of fun M2 H2 u e2 R2 v2 => ?_⟩
  obtain ⟨o, ho, q⟩ := k M2 H2 e2
  split at ho
  · cases ho
    exact ⟨v, u, rfl, q M2 H2 _ (.refl _ _) R2 ((((hE.ext e1).ext e2).set (v1.ext e2)).set v2)⟩
  · cases ho
theorem ss_par3 {i j l : Nat} {x y z : Str} {px py pz pt : Pos} {kt k2 : Nat} {pt2 : Pos} (hc : X.calm = true) (hN : X.N.Nodup) (hi : X.N[i]? = some x) (hj : X.N[j]? = some y) (hl : X.N[l]? = some z) (hij : i ≠ j) (hil : i ≠ l) (hjl : j ≠ l)
    (hx : X.env.scope.names.lookup x = some .local) (hy : X.env.scope.names.lookup y = some .local) (hz : X.env.scope.names.lookup z = some .local) (hpa : plE ea = true) (hpb : plE eb = true) (hpc : plE ec = true) (ha : SX cf X W a ea) (hb : SX cf X W b eb) (hcc : SX cf X W c ec)
    (hw : swappedStores [.Tuple [.Name x px, .Name y py, .Name z pz] kt pt] (.Tuple [ea, eb, ec] k2 pt2) X.env = pure (some [x, y, z])) :
    SS cf X W (.par3 i j l a b c) (.Assign [.Tuple [.Name x px, .Name y py, .Name z pz] kt pt] (.Tuple [ea, eb, ec] k2 pt2) pos) := by
  refine PS_mono (ps_par3 hc hN hi hj hl hij hil hjl hx hy hz (pa_cons ha (pa_cons hb (pa_cons hcc pa_nil (star_cons hpc)) (star_cons hpb)) (star_cons hpa)) hw rfl) fun N σ H h => ?_
  obtain ⟨L, M, st, env, o, hE, hR, e, q⟩ := h
  refine ⟨L, M, st, env, hE, hR, (thnS_run (m := evX cf a env) (k := fun x st1 => thnS (evX cf b env) env st1 fun y st2 => thnS (evX cf c env) env st2 fun z st3 => if i < env.length ∧ j < env.length ∧ l < env.length then some (.nx (((env.set i (some x.val)).set j (some y.val)).set l (some z.val)) st3) else none) hE e q).mono fun st1 x k => OkE.of fun M1 H1 v e1 R1 v1 => ?_⟩
  obtain ⟨o, ho, q⟩ := k M1 H1 e1
  refine ⟨L, M1, st1, env, hE.ext e1, R1, (thnS_run (hE.ext e1) ho q).mono fun st2 y k => OkE.of fun M2 H2 u e2 R2 v2 => ?_⟩
  obtain ⟨o, ho, q⟩ := k M2 H2 e2
  refine ⟨L, M2, st2, env, (hE.ext e1).ext e2, R2, (thnS_run ((hE.ext e1).ext e2) ho q).mono fun st3 z k => OkE.of fun M3 H3 w e3 R3 v3 => ?_⟩
  obtain ⟨o, ho, q⟩ := k M3 H3 e3
  split at ho
  · cases ho
    exact ⟨v, u, w, rfl, q M3 H3 _ (.refl _ _) R3 ((((((hE.ext e1).ext e2).ext e3).set ((v1.ext e2).ext e3)).set (v2.ext e3)).set v3)⟩
  · cases ho
/-! ### op= -/
def rAug (K : PySem.W.Frag) (op : Operator) : TIp := fun x y H Q => ∃ L M st dx dy d, Rel K L M st H ∧ Val K L M H x dx ∧ Val K L M H y dy ∧ augD op dx dy = some d ∧ (∀ v, Val K L M H v d → Q v H)
theorem ip_aug {op : Operator} : PIp X op (rAug X.K op) := by
  intro pins s σ H x y v u Q I r1 r2 h
  obtain ⟨L, M, st, dx, dy, d, hR, qx, qy, he, ho⟩ := h
  unfold augD at he
  split at he
  · cases he; cases qx; cases qy
    exact ip_add pins s σ H _ _ v u Q I r1 r2 ⟨_, _, rfl, rfl, ho _ (.int _)⟩
  · cases he; cases qx; cases qy
    exact ip_sub pins s σ H _ _ v u Q I r1 r2 ⟨_, _, rfl, rfl, ho _ (.int _)⟩
  · cases he
theorem ss_aug {i : Nat} {x : Str} {op : Operator} {pos' : Pos} (hN : X.N.Nodup) (hi : X.N[i]? = some x) (hx : Loc X.env.scope x) (hf : X.fn x = true ∨ X.env.scope.names.lookup x = some .local) (ha : SX cf X W a ea) :
    SS cf X W (.aug i op a) (.AugAssign (.Name x pos') op ea pos) := by
  refine PS_mono (ps_aug hN hi hx ha ip_aug hf) fun N σ H h => ?_
  obtain ⟨L, M, st, env, o, hE, hR, e, q⟩ := h
  have e : (match env[i]? with
    | some (some x) => thnS (evX cf a env) env st fun y st1 => match augD op x y.val with
      | some d => some (.nx (env.set i (some d)) st1)
      | none => none
    | _ => none) = some o := e
  split at e
  · rename_i dx hi
    obtain ⟨v, hv, qv⟩ := hE.2 i dx hi
    refine ⟨v, hv, L, M, st, env, hE, hR, (thnS_run hE e q).mono fun st1 y k => OkE.of fun M1 H1 u e1 R1 v1 => ?_⟩
    obtain ⟨o, ho, q⟩ := k M1 H1 e1
    split at ho
    · rename_i d hd
      cases ho
      exact ⟨L, M1, st1, dx, y.val, d, R1, qv.ext e1, v1, hd, fun w hw => q M1 H1 _ (.refl _ _) R1 ((hE.ext e1).set hw)⟩
    · cases ho
  · cases e
end
end Cl

/-! Cl, part L: dicts, backwards, op= of an item, for, while. -/
namespace Cl
open PySem L2
section
variable {cf : CF} {X : Cx} {W : WX} {a b c : CE} {ea eb ec : Expr} {pos p : Pos} {s : Stmt} {ss rs : List Stmt} {cs : CS} {ks ls : CSs}
theorem vls_rev {K : PySem.W.Frag} {L M : List Addr} {H : Hp} : ∀ {ds : List D} {vs : List V}, Vls K L M H vs ds → Vls K L M H vs.reverse ds.reverse
  | [], _, q => by cases q; exact .nil
  | d :: ds, _, q => by
    cases q with
    | cons h hs =>
      rw [List.reverse_cons, List.reverse_cons]
      exact (vls_rev hs).append (.cons h .nil)
theorem sx_rev {k : Nat} {p1 p2 p3 : Pos} (ha : SX cf X W a ea) : SX cf X W (.rev a) (.Subscript ea (.Slice none none (some (.UnaryOp .USub (.Constant (.int 1) k p1) p2)) p3) pos) := by
  refine PE_mono (pe_revA ha) fun σ H Q h => ?_
  obtain ⟨L, M, st, env, hE, hR, h⟩ := h
  refine ⟨L, M, st, env, hE, hR, (Run.bnd OkE.mono h).mono fun st1 x k => OkE.of fun M1 H1 v e1 R1 v1 => ?_⟩
  obtain ⟨e, he, ho⟩ := Run.lft (Run.eq (m' := lft (revD st1 x.val)) (k M1 H1 e1) rfl)
  generalize x.val = d at he v1
  unfold revD at he
  split at he
  · cases he
    cases v1 with
    | @tup a' vs _ h1 q1 => exact ⟨a', vs, rfl, .inr ⟨h1.sq, fun p hp => ho.tup R1 (vls_rev q1) hp⟩⟩
  · split at he
    · rename_i xs hx
      cases he
      obtain ⟨a', vs, rfl, h1, h2⟩ := rdL_sq R1 v1 hx
      exact ⟨a', vs, rfl, .inl ⟨h1, fun p hp => ho.new R1 (vls_rev h2) hp⟩⟩
    · cases he
theorem sx_lenS {p2 q : Pos} (hc : X.calm = true) (hg : Gl X "len") (hm : X.mg "len" = none) (hg2 : Gl X "set") (hm2 : X.mg "set" = none) (hp : plE ea = true) (ha : SX cf X W a ea) :
    SX cf X W (.lenS a) (.Call (.Name "len" p) [.Call (.Name "set" p2) [ea] [] q] [] pos) := by
  refine PE_mono (RZ.pe_lenSetI hg hm hg2 hm2 ha hc (star_cons hp)) fun σ H Q h => ?_
  obtain ⟨L, M, st, env, hE, hR, h⟩ := h
  refine ⟨L, M, st, env, hE, hR, (Run.bnd OkE.mono h).mono fun st1 x k => OkE.of fun M1 H1 v e1 R1 v1 => ?_⟩
  obtain ⟨e, he, ho⟩ := Run.lft (Run.eq (m' := lft (lenSD st1 x.val)) (k M1 H1 e1) rfl)
  unfold lenSD at he
  split at he
  · rename_i xs hx
    split at he
    · rename_i is hi
      split at he
      · rename_i hn
        cases he
        obtain ⟨a', ws, rfl, h1, h2⟩ := rdL_sq R1 v1 hx
        rw [h2.ints hi] at h1
        exact ⟨a', is, rfl, h1, hn.1, hn.2, ho.int R1⟩
      · cases he
    · cases he
  · cases he
theorem sx_dctN : SX cf X W .dctN (.Dict [] [] pos) := by
  refine PE_mono pe_dnewT fun σ H Q h => ?_
  obtain ⟨L, M, st, env, hE, hR, r, st', e, q⟩ := h
  cases e
  intro p hp
  exact q _ _ _ (.adopt hp (hR.fresh hp)) (hR.adoptO hp ⟨[], upd_same, .nil⟩) (.loc (by rw [← hR.len]; simp))
theorem Rel.show {K : PySem.W.Frag} {L M : List Addr} {H : Hp} {st : Store} {q : Addr} (r : Rel K (q :: L) M st H) : Rel K L M st H :=
  ⟨r.len, r.nd, fun n a o e z => (r.obj n a o e z).show, fun a ha => r.hid a (List.mem_cons_of_mem _ ha)⟩
theorem PX.hide {K : PySem.W.Frag} {mg : Str → Option Value} {L M : List Addr} {σ : St} {H : Hp} {st : Store} {x : XD} {q : Addr} {u : HO} (hq : H q = none) (nq : q ∉ M) (h : PX K mg L W σ M H st x) : PX K mg (q :: L) W σ M (upd H q u) st x := by
  intro M' H' cls dd e r v
  refine h M' H' cls dd ((Ext.new hq nq).trans e) r.show ?_
  obtain ⟨C, h1, h2, h0, h3⟩ := v
  refine ⟨C, h1, h2, h0, fun w hw => ?_⟩
  obtain ⟨d, y, k1, k2, k3, k4, k5⟩ := h3 w hw
  exact ⟨d, y, k1, k2, k3, fun z => k4 (List.mem_cons_of_mem _ z), k5.show⟩
theorem upd_delH {H : Hp} {q : Addr} {u : HO} : upd (delH H q) q u = upd H q u := by
  funext b
  by_cases c : b = q
  · subst c; rw [upd_same, upd_same]
  · rw [upd_ne c, upd_ne c, delH_ne c]
theorem Val.del {K : PySem.W.Frag} {L M : List Addr} {H : Hp} {q : Addr} {v : V} {d : D} (h : Val K (q :: L) M H v d) : Val K L M (delH H q) v d := (h.agr fun b c => delH_ne c).show
theorem sx_dct1 (hu : X.A.units + 1 < cLine) (ha : SX cf X W a ea) (hb : SX cf X W b eb) : SX cf X W (.dct1 a b) (.Dict [some ea] [eb] pos) := by
  refine PE_mono (pe_dct1 hu ha hb) fun σ H Q h => ?_
  obtain ⟨L, M, st, env, hE, hR, h⟩ := h
  intro q hq
  have nq := hR.fresh hq
  have nL := hR.freshL hq
  have nw : Ext M H M (upd H q (.dT [])) := .new hq nq
  obtain ⟨r, st1, e1, k1⟩ := Run.bnd OkE.mono h
  have hE' := (hE.hide hq).ext nw
  refine ⟨q :: L, M, st, env, hE', hR.hideNew hq, r, st1, e1, ?_⟩
  cases r with
  | ex x => exact PX.hide hq nq k1
  | ok x =>
    refine OkE.of fun M1 H1 v x1 R1 v1 => ?_
    obtain ⟨r, st2, e2, k2⟩ := Run.bnd OkE.mono (k1 M H (.refl _ _))
    refine ⟨q :: L, M1, st1, env, hE'.ext x1, R1, r, st2, e2, ?_⟩
    cases r with
    | ex x => exact PX.mono x1 (PX.hide hq nq k2)
    | ok y =>
      refine OkE.of fun M2 H2 w x2 R2 v2 => ?_
      obtain ⟨r, st3, e3, k3⟩ := k2 M H (.refl _ _)
      dsimp only at e3
      split at e3
      · rename_i o ho
        cases e3
        have v1' := v1.ext x2
        generalize x.val = dx at ho v1'
        unfold dct1D at ho
        split at ho
        · rename_i ds
          split at ho
          · rename_i kk hk
            cases ho
            cases v1' with
            | @tup b' vs _ h1 q1 =>
              have e0 := keyD_vls hk q1
              have hd0 : (upd H q (.dT [])) q = some (.dT []) := upd_same
              have nqM : q ∉ M := nq
              have hd1 := x1.keep q _ hd0 nqM
              have hd2 := x2.keep q _ hd1.1 hd1.2
              refine ⟨b', kk, rfl, by rw [← e0]; exact h1.1, hd2.1, ?_⟩
              have dn : (delH H2 q) q = none := delH_same
              have RD := R2.del nL
              have ad : Ext M2 (delH H2 q) (M2 ++ [q]) (upd (delH H2 q) q (.dT [(kk, w)])) := .adopt dn (RD.fresh dn)
              have RA := RD.adoptO (o := .dT [(kk, y.val)]) (u := .dT [(kk, w)]) dn ⟨[(kk, w)], upd_same, .cons ⟨rfl, v2.del.ext ad⟩ .nil⟩
              rw [upd_delH] at RA ad
              refine k3 (M2 ++ [q]) _ (.ref q) ⟨?_, fun c o ec nc => ?_⟩ RA (.loc (by rw [← R2.len]; simp))
              · obtain ⟨t1, rfl⟩ := x1.pre
                obtain ⟨t2, rfl⟩ := x2.pre
                exact ⟨t1 ++ t2 ++ [q], by simp⟩
              · have cq : c ≠ q := ne_of_none ec hq
                have z0 : upd H q (.dT []) c = some o := by rw [upd_ne cq]; exact ec
                have z1 := x1.keep c o z0 nc
                have z2 := x2.keep c o z1.1 z1.2
                refine ⟨by rw [upd_ne cq]; exact z2.1, fun z => (List.mem_append.mp z).elim z2.2 fun z => cq (by simpa using z)⟩
          · cases ho
        · cases ho
      · cases e3
/-! ### o[i] op= e -/
def rGetC (K : PySem.W.Frag) : V → V → Hp → VK → Prop := fun x y H Q => ∃ L M st dx dy d, Rel K L M st H ∧ Val K L M H x dx ∧ Val K L M H y dy ∧ augI st dx dy = some d ∧ ∀ v, Val K L M H v d → Q v H
theorem get_C : PGet X (rGetC X.K) := by
  intro pins s σ H o i ov iv Q I r1 r2 h
  obtain ⟨L, M, st, dx, dy, d, hR, qx, qy, he, k⟩ := h
  unfold augI at he
  split at he
  · rename_i n z
    split at he
    · rename_i xs hx
      split at he
      · rename_i h0
        cases qx with
        | @loc a _ hn =>
        cases qy
        obtain ⟨vs, h1, h2⟩ := hR.obj _ _ _ hn hx
        obtain ⟨v, hv, qv⟩ := h2.get he
        cases (show ov = Value.ref a from r1)
        obtain ⟨t, rfl⟩ := r2
        obtain ⟨its, rv, p, hz⟩ := I.list (.of h1)
        obtain ⟨w, ew, rw'⟩ := rv.get hv
        have hl := (List.getElem?_eq_some_iff.mp ew).1
        have hn := line63
        refine wpAny_getItem_list p.isList h0 (by rw [← rv.length] at hl; omega) (by simpa using ew) ⟨v, H, I, rw', k v qv⟩
      · cases he
    · cases he
  · cases he
theorem ss_augS {i : CE} {ei : Expr} {op : Operator} {tpos : Pos} (hu : X.A.units + 1 < cLine) (hp : plE ei = true) (ho : SX cf X W a ea) (hi : SX cf X W i ei) (hb : SX cf X W b eb) :
    SS cf X W (.augS a i op b) (.AugAssign (.Subscript ea ei tpos) op eb pos) := by
  refine PS_mono (ps_augS ho hi get_C hb ip_aug (set_C hu) (by cases ei <;> first | (intros; rfl) | cases hp)) fun N σ H h => ?_
  obtain ⟨L, M, st, env, o, hE, hR, e, q⟩ := h
  refine ⟨L, M, st, env, hE, hR, (thnS_run (m := evX cf a env) (k := fun x st1 => thnS (evX cf i env) env st1 fun y st2 => match augI st2 x.val y.val with
    | some old => thnS (evX cf b env) env st2 fun z st3 => match augD op old z.val with
      | some d => match setD st3 x.val y.val d with
        | some st4 => some (.nx env st4)
        | none => none
      | none => none
    | none => none) hE e q).mono fun st1 x k => OkE.of fun M1 H1 v e1 R1 v1 => ?_⟩
  obtain ⟨o, hh, q⟩ := k M1 H1 e1
  have E1 := hE.ext e1
  refine ⟨L, M1, st1, env, E1, R1, (thnS_run E1 hh q).mono fun st2 y k => OkE.of fun M2 H2 u e2 R2 v2 => ?_⟩
  obtain ⟨o, hh, q⟩ := k M2 H2 e2
  have E2 := E1.ext e2
  split at hh
  · rename_i old hold
    refine ⟨L, M2, st2, x.val, y.val, old, R2, v1.ext e2, v2, hold, fun w qw => ?_⟩
    refine ⟨L, M2, st2, env, E2, R2, (thnS_run E2 hh q).mono fun st3 z k => OkE.of fun M3 H3 t e3 R3 v3 => ?_⟩
    obtain ⟨o, hh, q⟩ := k M3 H3 e3
    split at hh
    · rename_i d hd
      split at hh
      · rename_i st4 hs
        cases hh
        exact ⟨L, M3, st3, old, z.val, d, R3, qw.ext e3, v3, hd, fun y' hy => ⟨L, M3, st3, x.val, y.val, d, st4, R3, (v1.ext e2).ext e3, v2.ext e3, hy, hs, fun M4 H4 e4 R4 => q M4 H4 σ e4 R4 ((E2.ext e3).ext e4)⟩⟩
      · cases hh
    · cases hh
  · cases hh
/-! ### for -/
theorem ss_frs {g : CT} {it : CI} {tg iter : Expr} (hp : PassesOwn (model X.prog X.w) X.A X.env X.xe) (hc : X.calm = true) (hi : SI cf X W tg it iter) (hg : SG cf X g tg) (hb : SSs cf X W ks ss) (hs : ∀ x, foldedSetIterable iter X.env x = pure x) :
    SS cf X W (.frs g it ks) (.For tg iter ss [] pos) := by
  refine PS_mono (ps_for hp hc hi hg hb hs) fun N σ H h => ?_
  obtain ⟨L, M, st, env, o, hE, hR, e, q⟩ := h
  refine ⟨L, M, st, env, hE, hR, (thnS_run (m := evI cf it env) (k := fun src st1 => forGo src (fun d env1 st2 => match bdT cf g d env1 st2 with
      | some (.ok env2, st3) => evSs cf ks env2 st3
      | _ => none) src.items env st1) hE e q).mono fun st1 src k => fun M1 H1 J e1 R1 sr => ?_⟩
  obtain ⟨o, hh, q⟩ := k M1 H1 e1
  refine ⟨fun i m σ H => m = src.items.length - i ∧ i ≤ src.items.length ∧ ∃ M st env, RelE X.K L M H σ env ∧ Rel X.K L M st H ∧ SrcR X.K L M H J src ∧ forGo src (fun d env1 st2 => match bdT cf g d env1 st2 with
      | some (.ok env2, st3) => evSs cf ks env2 st3
      | _ => none) (src.items.drop i) env st = some o ∧ OkS X.K X.mg L W N M H o, ⟨_, rfl, Nat.zero_le _, M1, st1, env, hE.ext e1, R1, sr, hh, q⟩, ?_⟩
  rintro i m σ H ⟨rfl, hi, M, st, env, hE, hR, sr, hh, q⟩
  by_cases hlt : i < src.items.length
  · rw [List.drop_eq_getElem_cons hlt] at hh
    unfold forGo at hh
    split at hh
    case isFalse => cases hh
    rename_i hok
    refine .inr ⟨sr.go hR hok hlt, fun σ H => i + 1 ≤ src.items.length ∧ ∃ M st env, RelE X.K L M H σ env ∧ Rel X.K L M st H ∧ SrcR X.K L M H J src ∧ forGo src (fun d env1 st2 => match bdT cf g d env1 st2 with
      | some (.ok env2, st3) => evSs cf ks env2 st3
      | _ => none) (src.items.drop (i + 1)) env st = some o ∧ OkS X.K X.mg L W N M H o, fun σ' H' ⟨hi', M, st, env, z⟩ => ⟨src.items.length - (i + 1), by omega, rfl, hi', M, st, env, z⟩, ?_⟩
    intro x H' y
    obtain ⟨e3, R3, v3⟩ := sr.yld hR hok (List.getElem?_eq_getElem hlt) y
    split at hh
    · -- next
      rename_i env1 st1 h1
      split at h1
      · rename_i env2 st3 hb
        refine ⟨L, M, st, env, src.items[i], env2, st3, hE.ext e3, R3, v3, hb, fun M4 H4 σ4 e4 R4 E4 _ => ⟨L, M4, st3, env2, _, E4, R4, h1, fun M5 H5 σ5 e5 R5 E5 => ?_⟩⟩
        exact ⟨hlt, M5, st1, env1, E5, R5, sr.ext ((e3.trans e4).trans e5), hh, q.mono ((e3.trans e4).trans e5)⟩
      · cases h1
    · rename_i env1 st1 h1
      split at h1
      · rename_i env2 st3 hb
        refine ⟨L, M, st, env, src.items[i], env2, st3, hE.ext e3, R3, v3, hb, fun M4 H4 σ4 e4 R4 E4 _ => ⟨L, M4, st3, env2, _, E4, R4, h1, fun M5 H5 σ5 e5 R5 E5 => ?_⟩⟩
        exact ⟨hlt, M5, st1, env1, E5, R5, sr.ext ((e3.trans e4).trans e5), hh, q.mono ((e3.trans e4).trans e5)⟩
      · cases h1
    · rename_i env1 st1 h1
      cases hh
      split at h1
      · rename_i env2 st3 hb
        refine ⟨L, M, st, env, src.items[i], env2, st3, hE.ext e3, R3, v3, hb, fun M4 H4 σ4 e4 R4 E4 _ => ⟨L, M4, st3, env2, _, E4, R4, h1, fun M5 H5 σ5 e5 R5 E5 => ?_⟩⟩
        exact q M5 H5 σ5 ((e3.trans e4).trans e5) R5 E5
      · cases h1
    · rename_i o1 hn1 hn2 hn3 h1
      cases hh
      split at h1
      · rename_i env2 st3 hb
        refine ⟨L, M, st, env, src.items[i], env2, st3, hE.ext e3, R3, v3, hb, fun M4 H4 σ4 e4 R4 E4 _ => ⟨L, M4, st3, env2, _, E4, R4, h1, ?_⟩⟩
        have q := q.mono (e3.trans e4)
        cases o with
        | nx e s => exact absurd rfl (hn1 e s)
        | bk e s => exact absurd rfl (hn3 e s)
        | ct e s => exact absurd rfl (hn2 e s)
        | rt d s => exact q
        | ex x e s => exact q
      · cases h1
    · cases hh
  · have hi' : i = src.items.length := by omega
    subst hi'
    rw [List.drop_length] at hh
    unfold forGo at hh
    split at hh
    case isFalse => cases hh
    rename_i hok
    cases hh
    exact .inl ⟨sr.stop hR hok, q M H σ (.refl _ _) hR hE⟩
/-! ### while -/
theorem ss_whl (hp : PassesOwn (model X.prog X.w) X.A X.env X.xe) (ha : ST cf X W a ea) (hb : SSs cf X W ks ss) : SS cf X W (.whl a ks) (.While ea ss [] pos) := by
  refine PS_mono (ps_while hp ha hb) fun N σ H h => ?_
  obtain ⟨L, M, st, env, o, hE, hR, e, q⟩ := h
  refine ⟨fun m σ H => ∃ M st env, RelE X.K L M H σ env ∧ Rel X.K L M st H ∧ whlGo (evT cf a) (evSs cf ks) m env st = some o ∧ OkS X.K X.mg L W N M H o, ⟨fuel, M, st, env, hE, hR, e, q⟩, ?_⟩
  rintro m σ H ⟨M, st, env, hE, hR, e, q⟩
  cases m with
  | zero => cases e
  | succ m =>
    unfold whlGo at e
    split at e
    · rename_i st1 h1
      refine ⟨L, M, st, env, hE, hR, .ok true, st1, h1, fun M1 H1 e1 R1 => ?_⟩
      show if true = true then _ else _
      rw [if_pos rfl]
      refine ⟨fun σ H => ∃ M st env, RelE X.K L M H σ env ∧ Rel X.K L M st H ∧ whlGo (evT cf a) (evSs cf ks) m env st = some o ∧ OkS X.K X.mg L W N M H o, fun σ' H' z => ⟨m, Nat.lt_succ_self _, z⟩, ?_⟩
      split at e
      · rename_i env1 st2 h2
        exact ⟨L, M1, st1, env, _, hE.ext e1, R1, h2, fun M5 H5 σ5 e5 R5 E5 => ⟨M5, st2, env1, E5, R5, e, q.mono (e1.trans e5)⟩⟩
      · rename_i env1 st2 h2
        exact ⟨L, M1, st1, env, _, hE.ext e1, R1, h2, fun M5 H5 σ5 e5 R5 E5 => ⟨M5, st2, env1, E5, R5, e, q.mono (e1.trans e5)⟩⟩
      · rename_i env1 st2 h2
        cases e
        exact ⟨L, M1, st1, env, _, hE.ext e1, R1, h2, fun M5 H5 σ5 e5 R5 E5 => q M5 H5 σ5 (e1.trans e5) R5 E5⟩
      · rename_i o1 hn1 hn2 hn3 h2
        cases e
        refine ⟨L, M1, st1, env, _, hE.ext e1, R1, h2, ?_⟩
        have q := q.mono e1
        cases o with
        | nx e9 s => exact absurd rfl (hn1 e9 s)
        | bk e9 s => exact absurd rfl (hn3 e9 s)
        | ct e9 s => exact absurd rfl (hn2 e9 s)
        | rt d s => exact q
        | ex x e s => exact q
      · cases e
    · rename_i st1 h1
      cases e
      refine ⟨L, M, st, env, hE, hR, .ok false, st1, h1, fun M1 H1 e1 R1 => ?_⟩
      show if false = true then _ else _
      rw [if_neg Bool.false_ne_true]
      exact q M1 H1 σ e1 R1 (hE.ext e1)
    · rename_i x st1 h1
      cases e
      exact ⟨L, M, st, env, hE, hR, .ex x, st1, h1, fun M' H' cls dd e r v => q M' H' σ cls dd e r (hE.ext e) v⟩
    · cases e
end
end Cl

set_option maxHeartbeats 2000000
/-! Cl, part X: the error NoPlace, with its own __init__ (a worked proof, skeleton 42, turned to a class under LookupError). -/
namespace PySem
namespace NoPX
open Builtin Builtin.ObjectAttr PySem.HandSPX
abbrev leTail : List Value := [.type "LookupError", .type "Exception", .type "BaseException", .type "object"]
theorem pass_le {bm : List Value} (C : Addr) (h : bm = leTail) (self : Value) : refuseLoop self "__setattr__" (.ref C :: bm) = pure () := by
  subst h
  rw [refuseLoop_ref]
  exact F.store_LookupError.passes self
section
variable {prog : Program} {w : World} {A : Around} {E : Value → Shared → Prop} {R : Result → Shared → Prop} {hp : Heap} {g : Array GenState} {d : Drawn} {t : Nat} {os : OsState}
theorem exc_osaL {K : W.Frag} {name : Str} {tk : Tok} {v : Value} {x C : Addr} {fv : Array Value} {cd : ClassData}
    (X : K.In hp) (hx : hp.get? x = some { cls := .ref C, data := .fields fv }) (hcd : W.clsIn K C = some cd) (hm : ∀ self, refuseLoop self "__setattr__" cd.mro = pure ()) (ne : cd.mro.isEmpty = false) (hob : cd.mro.contains (.type "object") = true) (hh : cd.hasDict = true) (ha : W.findIn K (.ref C) name = some none)
    (hq : ∀ h' tk' dx, (∀ b o, b ≠ x → hp.get? b = some o → h'.get? b = some o) → hp.objs.size ≤ dx → dx ≠ x → h'.get? x = some { cls := .ref C, dict := some dx, data := .fields fv } →
      h'.Ns1 dx (fun y => if y = name then some v else none) → R (.ok (.ret .none)) ⟨h', g, d, tk', os⟩) :
    codeAny (model prog w) A (.call (.builtin "object.__setattr__") ⟨[.ref x, .str name tk, v], []⟩) R ⟨hp, g, d, t, os⟩ := by
  have I : W.InstAt hp x { cls := .ref C, data := .fields fv } C none := ⟨hx, rfl, rfl, trivial⟩
  have SF := F.store_object
  have hxs : x ≠ hp.objs.size := Nat.ne_of_lt (Heap.lt_size hx)
  have sub : W.Looks (model prog w) hp (isInstance (.ref x) (.type "object")) true := I.type.andThen (W.looks_mroIn X (by unfold W.mroIn; rw [hcd, Option.bind_some, if_neg (by rw [ne]; decide), hob]))
  refine codeAny_call_builtin SF.slot.plain SF.entry (@W.check_slot (model prog w) _ _ ⟨hp, g, d, t, os⟩ "object.__setattr__" "object" "__setattr__" (.ref x) [.str name tk, v] [] _ SF.kind SF.split sub (SF.args (.ref x) (.str name tk) v) ?_)
  have hmr : W.Looks (model prog w) hp (mroOf (.ref C)) cd.mro := (W.looks_clsIn X hcd).andThen .now
  have L3 : W.Looks (model prog w) hp (storeTaker? none) none := .now
  have hcls : W.Looks (model prog w) hp (classData C) cd := W.looks_clsIn X hcd
  rw [W.osa_eq, refuse_eq]
  refine wpAny_bind (wpAny_bind (I.type.at (wpAny_bind (hmr.at ?_))))
  rw [hm]
  refine wpAny_pure (wpAny_bind (I.type.at (wpAny_bind ((W.looks_findIn X ha).at (wpAny_bind (L3.at ?_))))))
  show wpAny _ _ (storeInOwnDict (.ref x) (.ref C) (.str name tk) name v false) _ _ _
  obtain ⟨nm, bs, mro, ns, qn, hd, sn, sb, ab, col, del⟩ := cd
  dsimp only at hh
  subst hh
  unfold storeInOwnDict ownDictForStores
  repeat (first | with_reducible refine store_in_new ?_ ?_ | with_reducible refine wpAny_loadPart_at hx ?_ | with_reducible refine hcls.at ?_ | wp_step)
  · exact ⟨_, #[], _, (Heap.get?_update_ne _ _ _ _ hxs.symm).trans (Heap.get?_push_at rfl rfl), rfl, fun e he => absurd he (by simp), fun _ => rfl⟩
  · intro h' tk' hn' hs
    have hx₁ : (hp.push { cls := .type "dict", data := .dict #[] }).get? x = some { cls := .ref C, data := .fields fv } := Heap.get?_push_of_some _ hx
    refine hq h' tk' hp.objs.size (fun b o hb ho => ?_) (Nat.le_refl _) hxs.symm ?_ hn'
    · exact (hs.2 b (Nat.ne_of_lt (Heap.lt_size ho))).trans ((Heap.get?_update_ne _ _ _ _ hb).trans (Heap.get?_push_of_some _ ho))
    · exact (hs.2 x hxs).trans (Heap.get?_update_self _ hx₁ rfl)
end
end NoPX
end PySem
namespace PySem
namespace NoPX
open PySem.W PySem.Calls PyProof.Rows PySem.HandSPX
/-! ### the text of __init__ -/
def iA (p1 p2 : Pos) : Arguments := { posonlyargs := [], args := [{ arg := "self", annotation := none, pos := p1 }, { arg := "place", annotation := none, pos := p2 }], vararg := none, kwonlyargs := [], kw_defaults := [], kwarg := none, defaults := [] }
def iB (q1 q2 q3 q4 : Pos) : List Stmt := [.Assign [.Attribute (.Name "self" q1) "place" q2] (.Name "place" q3) q4]
def iS : Scope := { kind := .function, names := [(PySem.Str.ofString "self", .local), (PySem.Str.ofString "place", .local)], isGenerator := false, isCoroutine := false, more := [] }
/-- what the written part says of Low, at C, and of its __init__, at fI -/
structure PlTxt (K : Frag) (mg : Str → Option Value) (C fI : Addr) : Prop where
  gC : mg "NoPlace" = some (.ref C)
  cls : ∃ nm q N bs bm sn sub ab col dd k0 k1 k2 k3 k5, K.lookup C = some (excClassObj nm q C N bs bm true sn sub ab col dd k0 k1 k2 k3 k5 "LookupError.__new__") ∧ bm = leTail
  sa : findIn K (.ref C) "__setattr__" = some (some (.builtin "object.__setattr__"))
  ga : findIn K (.ref C) "__getattribute__" = some (some (.builtin "BaseException.__getattribute__"))
  gg : findIn K (.ref C) "__getattr__" = some none
  noN : findIn K (.ref C) "place" = some none
  iC : findIn K (.ref C) "__init__" = some (some (.ref fI))
  tC : typeIn K (.ref fI) = some (.type "function")
  kC : keepIn K (.ref C) = true
  exC : subIn K (.ref C) (.type "BaseException") = some true
  tyC : typeIn K (.ref C) = some (.type "type")
  hdC : hasDictIn K C = true
  te : exmOne K (.ref C) (.ref C) = some true
  fn : ∃ (oc : Value) (od : Option Addr) (kV doc pm : Value) (an : Option Addr) (cdv ct : Value) (osl : Array (Option Value)) (p1 p2 q1 q2 q3 q4 : Pos),
    K.lookup fI = some ⟨oc, od, .func (fnOf "__init__" "NoPlace.__init__" (iA p1 p2) (iB q1 q2 q3 q4) iS .none kV doc pm an cdv ct), osl⟩ ∧ codeIn K cdv "NoPlace.__init__" = true
theorem one_size (v : Value) : [v].length ≤ sizeLine := by
  rw [sizeLine_eq]
  exact (by decide : 1 ≤ 16777216)
theorem kept_but {K : Frag} {h h' : Heap} {x : Addr} (X : K.In h) (hx : K.lookup x = none) (k : ∀ b o, b ≠ x → h.get? b = some o → h'.get? b = some o) : K.In h' := fun a o e =>
  k a o (fun z => by rw [z, hx] at e; cases e) (X a o e)
theorem ldC {M : Model} {s : Shared} {name : Str} {scope : Scope} {L a : Addr} {cd : Value} {m : Str → Option Value} {x : Str} {pos : Pos} {v : Value} {Q : Value → Shared → Prop} {A : Around} {E : Value → Shared → Prop} (hn : s.heap.Ns L m) (hv : m x = some v) (h : Q v s)
    (hk : scope.kind = .function := by rfl) (hl : (envOfC name scope L a cd).kindOf x = some .local := by rfl) (hd : (x == ("__debug__" : Str)) = false := by decide) :
    wpAny M A (eval (.Name x pos) (envOfC name scope L a cd)) Q E s := wpAny_Name (wpAny_loadName_local hk hl hn hv h) hd
/-- what __init__ leaves of a fresh exception at x -/
structure PlEnd (h h' : Heap) (x C dx t1 : Addr) (v : Value) : Prop where
  keep : ∀ b o, b ≠ x → h.get? b = some o → h'.get? b = some o
  obj : h'.get? x = some { cls := .ref C, dict := some dx, data := .fields #[.ref t1, .none, .none, .none, .bool false, .none] }
  dbig : h.objs.size ≤ dx
  dne : dx ≠ x
  ns : h'.Ns1 dx (fun y => if y = "place" then some v else none)
/-- a made Low -/
structure PlMade (h h' : Heap) (e C d : Addr) (v : Value) : Prop where
  keep : ∀ b o, h.get? b = some o → h'.get? b = some o
  new : h.objs.size ≤ e
  obj : ∃ oe vs, h'.get? e = some oe ∧ oe.cls = .ref C ∧ oe.dict = some d ∧ oe.data = .fields vs ∧ vs[1]? = some .none
  dbig : h.objs.size ≤ d
  dne : d ≠ e
  ns : h'.Ns1 d (fun y => if y = "place" then some v else none)
section
variable {prog : Program} {w : World} {A : Around} {E : Value → Shared → Prop} {R : Result → Shared → Prop} {s : Shared} {K : Frag} {mg : Str → Option Value} {C fI : Addr}
theorem pl_init (T : PlTxt K mg C fI) {x t0 : Addr} {v : Value} (X : K.In s.heap) (hlim : s.heap.NoLimit) (hx : s.heap.get? x = some (excO C t0)) (hnx : K.lookup x = none) (hroom : A.depth < recursionLimit)
    (hq : ∀ h' tk dx, PlEnd s.heap h' x C dx t0 v → R (.ok (.ret .none)) { s with heap := h', toks := tk }) :
    codeAny (model prog w) A (.call (.ref fI) ⟨[.ref x, v], []⟩) R s := by
  obtain ⟨oc, od, kV, doc, pm, an, cdv, ct, osl, p1, p2, q1, q2, q3, q4, ho, hcd⟩ := T.fn
  obtain ⟨nm, q, N, bs, bm, sn, sub, ab, col, dd, k0, k1, k2, k3, k5, hC, hbm⟩ := T.cls
  have hcl : clsIn K C = some { name := nm, bases := bs, mro := .ref C :: bm, ns := N, qualname := q, hasDict := true, slotNames := sn, subclasses := sub, abstract := ab, collection := col, hasDel := false } := by unfold clsIn; rw [hC] <;> rfl
  refine Att.call_fn (binds := [("self", .ref x), ("place", v)]) X hlim ho hcd hroom (BindsTo.of_eq (by first | rfl | with_unfolding_all rfl)) (by first | rfl | decide | with_unfolding_all rfl) (fun s₁ IC => ?_) rfl rfl rfl
  obtain ⟨h₁, tk₁, rfl⟩ := IC.toInCall.same
  have k : ∀ b o, s.heap.get? b = some o → h₁.get? b = some o := IC.toInCall.keep
  have hn := IC.toInCall.ns
  have hxL : s.heap.objs.size ≠ x := Nat.ne_of_gt (Heap.lt_size hx)
  have X₁ : K.In h₁ := X.keeps k
  have hx₁ := k _ _ hx
  -- self.by = by
  show wpAny _ _ (execs _ _) _ _ _
  refine wpAny_execs_cons (plainObj_wpAny_Assign_Attribute ?_)
  refine ldC (v := v) hn (by first | rfl | with_unfolding_all rfl | kernel_rfl) (ldC (v := .ref x) hn (by first | rfl | with_unfolding_all rfl | kernel_rfl) ?_)
  refine set_plain X₁ (ox := excO C t0) (od := none) ⟨hx₁, rfl, rfl, trivial⟩ T.sa ?_
  refine exc_osaL X₁ hx₁ hcl (pass_le C hbm) (by rw [hbm]; rfl) (by rw [hbm]; show (Value.ref C :: leTail).contains (Value.type "object") = true; rw [List.contains_cons]; exact Bool.or_eq_true_iff.mpr (.inr (by decide +kernel))) rfl T.noN (fun h₃ tk₃ dx k₃ dn dne hx₃ hn₃ => ?_)
  show wpAny _ _ (execs _ _) _ _ _
  have z : s.heap.objs.size < h₁.objs.size := hn.lt
  exact wpAny_execs_nil (hq h₃ tk₃ dx ⟨fun b o hb e => k₃ b o hb (k b o e), hx₃, Nat.le_of_lt (Nat.lt_of_lt_of_le z dn), dne, hn₃⟩)
theorem pl_made (T : PlTxt K mg C fI) {v : Value} (X : K.In s.heap) (hlim : s.heap.NoLimit) (hroom : A.depth + 1 < recursionLimit)
    (hq : ∀ h' tk e d, PlMade s.heap h' e C d v → R (.ok (.ret (.ref e))) { s with heap := h', toks := tk }) :
    codeAny (model prog w) A (.call (.ref C) ⟨[v], []⟩) R s := by
  obtain ⟨nm, q, N, bs, bm, sn, sub, ab, col, dd, k0, k1, k2, k3, k5, hC, hbm⟩ := T.cls
  obtain ⟨hp, g, dr, tk, os⟩ := s
  have k : ∀ b o, hp.get? b = some o → ((hp.push (kdv_tup [v])).push (excO C hp.objs.size)).get? b = some o := fun b o e => Heap.get?_push_of_some _ (Heap.get?_push_of_some _ e)
  have hget : ((hp.push (kdv_tup [v])).push (excO C hp.objs.size)).get? (hp.objs.size + 1) = some (excO C hp.objs.size) := by heap_get
  have hnx : K.lookup (hp.objs.size + 1) = none := by
    cases e : K.lookup (hp.objs.size + 1) with
    | none => rfl
    | some o =>
      have z : hp.get? (hp.objs.size + 1) = some o := X _ _ e
      exact absurd (Nat.lt_of_succ_lt (Heap.lt_size z)) (Nat.lt_irrefl _)
  refine call_own F.excBase_LookupError (fun X => by rw [hbm]) (X _ _ hC) (looks_findIn X T.iC) (fun self => bind_fn X self T.tC) (one_size v) ?_
  refine pl_init (s := ⟨(hp.push (kdv_tup [v])).push (excO C hp.objs.size), g, dr, tk, os⟩) T (X.keeps k) (hlim.keeps k) hget hnx ?_ fun h' tk' dx ⟨k', hx, dn, dne, hns⟩ => ?_
  · show A.depth + 1 < recursionLimit
    exact hroom
  · have old : ∀ b o, hp.get? b = some o → h'.get? b = some o := fun b o e => k' b o (Nat.ne_of_lt (Nat.lt_succ_of_lt (Heap.lt_size e))) (k b o e)
    have z : hp.objs.size + 1 + 1 ≤ dx := by
      first
        | (simpa only [Heap.size_push] using dn)
        | exact dn
        | (have q := dn; rw [Heap.size_push, Heap.size_push] at q; exact q)
    exact ⟨rfl, hq h' tk' (hp.objs.size + 1) dx ⟨old, Nat.le_succ _, ⟨_, _, hx, rfl, rfl, rfl, rfl⟩, Nat.le_trans (Nat.le_trans (Nat.le_succ _) (Nat.le_succ _)) z, dne, hns⟩⟩
end
end NoPX
end PySem
namespace L2
open PySem PySem.Spec PyProof.Rows
theorem relO_pl {v : V} {v' : Value} (r : RelV v v') (f : Str) : RelO (List.lookup f [(("place" : Str), v)]) (if f = "place" then some v' else none) := by
  by_cases hw : f = "place"
  · subst hw
    rw [if_pos rfl]
    have q : List.lookup ("place" : Str) [(("place" : Str), v)] = some v := by simp [List.lookup]
    rw [q]
    exact r
  · rw [if_neg hw]
    have qw : (f == ("place" : Str)) = false := by simpa using hw
    have q2 : List.lookup f [(("place" : Str), v)] = none := by simp [List.lookup, qw]
    rw [q2]
    trivial
section
variable {X : Cx} {C fI : Addr}
/-- Low(e) -/
def tMkPl (C : Addr) (ta : TA) : St → Hp → XK → Prop := fun σ H Q => ta σ H fun vs H1 => ∃ v, vs = [v] ∧ ∀ d, H1 d = none → Q (.ref C) (some d) (upd H1 d (.xd [(("place" : Str), v)]))
theorem pmk_pl {a : Expr} {ta : TA} {p pos : Pos} {k : Nat} (T : PySem.NoPX.PlTxt X.K X.mg C fI) (hr : Room k X.A) (ha : PA X [a] ta) (hg : Gl X "NoPlace" := by rfl)
    (he : starEach (a :: []) X.env = (false, eval a X.env) :: starEach [] X.env := by rfl) (hpl : (backTo pos (starEach [] X.env)).any (·.1) = false := by rfl) :
    PMk X (.Call (.Name "NoPlace" p) [a] [] pos) (tMkPl C ta) := by
  intro pins s σ H Q I h
  refine wpAny_Call_Name_kw (ld_glob I hg T.gC ?_)
  refine PySem.W.callWith_K (h₀ := X.base) I.ok.mod.kin T.kC (thn (ha.run pos pins s σ H _ I h) fun us s1 hh => ?_) he hpl
  obtain ⟨vs, H1, I1, r1, v, ev, q1⟩ := hh
  subst ev
  refine ⟨I1.kIn, ?_⟩
  cases r1 with
  | cons rv rn =>
    rename_i v' us'
    cases rn
    show wpAny _ _ (call (.ref C) [v']) _ _ _
    have hlim := I1.nolimit
    obtain ⟨hp, g, dr, tk, os⟩ := s1
    refine wpAny_call (PySem.NoPX.pl_made T I1.kIn hlim (by have := hr.dp; omega) fun h' tk' e d M => ?_)
    show MkP X pins σ Q (.ref e) ⟨h', g, dr, tk', os⟩
    obtain ⟨oe, fv, hoe, hc, hd, hdat, h1⟩ := M.obj
    have hns := M.ns
    obtain ⟨G', g1, g2⟩ := restrict h' fun b => decide (b ≠ e)
    have gk : ∀ b, b ≠ e → G'.get? b = h'.get? b := fun b hb => g1 b (decide_eq_true hb)
    have ge : G'.get? e = none := g2 e (by simp)
    have old : ∀ b o, hp.get? b = some o → G'.get? b = some o := fun b o q => (gk b (Nat.ne_of_lt (Nat.lt_of_lt_of_le (Heap.lt_size q) M.new))).trans (M.keep b o q)
    have ob : ObjOk X.prog X.w (upd H1 d (.xd [(("place" : Str), v)])) G' d (.xd [(("place" : Str), v)]) :=
      ⟨_, hns.at (fun o q => (gk d M.dne).trans q), fun f => relO_pl rv f⟩
    have J : Inv X pins σ (upd H1 d (.xd [(("place" : Str), v)])) ⟨G', g, dr, tk', os⟩ := I1.laid (t' := tk') old M.dbig ob
    refine ⟨e, oe, fv, ⟨G', g, dr, tk', os⟩, _, .ref C, some d, rfl, J, fun b o q => ?_, ge, hoe, ⟨hc, hd⟩, hdat, h1, ?_, rfl, I1.bare, raises_own T.exC T.tyC, q1 d (I1.hok.fresh M.dbig)⟩
    · by_cases hb : b = e
      · have q' : G'.get? b = some o := q
        rw [hb, ge] at q'; cases q'
      · exact (gk b hb).symm.trans q
    · rw [upd_ne (Ne.symm M.dne)]
      exact I1.hok.fresh M.new
/-- raise Low(e) -/
def tRaisePl (C : Addr) (W : WX) (ta : TA) : TS := fun _ σ H => tMkPl C ta σ H fun cls d H' => W cls d σ H'
theorem ps_raisePl {a : Expr} {ta : TA} {W : WX} {p pos pos2 : Pos} {k : Nat} (hc : X.calm = true) (T : PySem.NoPX.PlTxt X.K X.mg C fI) (hr : Room k X.A) (tk : Takes X W) (ha : PA X [a] ta) (hg : Gl X "NoPlace" := by rfl)
    (he : starEach (a :: []) X.env = (false, eval a X.env) :: starEach [] X.env := by rfl) (hpl : (backTo pos (starEach [] X.env)).any (·.1) = false := by rfl) :
    PS X (.Raise (some (.Call (.Name "NoPlace" p) [a] [] pos)) none pos2) (tRaisePl C W ta) := ps_raise hc tk (pmk_pl T hr ha hg he hpl)
/-- low.by, low the exception that the suite holds (at a; its class cls, its dict d) -/
def tByPl (C : Addr) (a : Addr) (cls : Value) (d : Option Addr) (te : TE) : TE := fun σ H Q => te σ H fun x H1 => x = .ref a ∧ cls = .ref C ∧ ∃ (dd : Addr) (v : V), d = some dd ∧ H1 dd = some (.xd [(("place" : Str), v)]) ∧ Q v H1
theorem pe_byPl {a : Addr} {oe : Obj} {cls : Value} {d : Option Addr} {pn : List (Addr × Obj)} {e : Expr} {te : TE} {pos : Pos} (T : PySem.NoPX.PlTxt X.K X.mg C fI) (hz : Zc cls d oe) (hf : ∃ vs, oe.data = .fields vs) (he : PE (X.suite a ((a, oe) :: pn)) e te)
    (hb : attributeBase e "place" X.env (eval e X.env) = eval e X.env := by rfl) :
    PE (X.suite a ((a, oe) :: pn)) (.Attribute e "place" pos) (tByPl C a cls d te) := by
  refine ⟨fun pins s σ H Q I h => ?_⟩
  refine attr_of hb (thn (he.run pins s σ H _ I h) fun u s1 hh => ?_)
  obtain ⟨x, H1, I1, rx, ex, ec, dd, v, ed, ea, q⟩ := hh
  subst ex
  obtain rfl : u = Value.ref a := rx
  subst ec
  subst ed
  obtain ⟨ha, _⟩ := I1.pin (a, oe) (List.mem_append_left _ List.mem_cons_self)
  obtain ⟨vs, hd⟩ := hf
  have hx : ObjOk X.prog X.w H1 s1.heap dd (.xd [(("place" : Str), v)]) := I1.hok dd _ ea
  obtain ⟨mA, hns, hr⟩ := hx
  obtain ⟨od, ho, hl⟩ := lookIn_ns hns
  have l : List.lookup ("place" : Str) [(("place" : Str), v)] = some v := by simp [List.lookup]
  obtain ⟨u, hu, ru⟩ := RelO.some_of (v := v) (o := mA "place") (by rw [← l]; exact hr "place")
  have J : PySem.W.InstAt s1.heap a oe C (some od) := ⟨ha, hz.1, by unfold PySem.W.notCls; rw [hd] <;> rfl, by rw [hz.2]; exact ho⟩
  exact HandSPX.exc_get I1.kIn J T.ga T.gg T.exC (PySem.W.findObj_own T.hdC T.noN rfl (by rw [hl, hu])) (handed_of ru) ⟨v, H1, I1.tok _, ru, q⟩
end
end L2


/-! Cl, part M: raise and try. -/
namespace L2
open PySem PySem.Spec PyProof.Rows
/-- X() -/
theorem pmk_own0 {X : Cx} {C : Addr} {bmB : List Value} {B newId initId : String} {x : Str} {p pos : Pos} (F : ExcBaseFacts B newId initId bmB) (q : PySem.W.excIn X.K C bmB newId = true) (gC : X.mg x = some (.ref C)) (kC : PySem.W.keepIn X.K (.ref C) = true) (r : Raises X (.ref C)) (hg : Gl X x)
    (hdb : (x == ("__debug__" : Str)) = false) : PMk X (.Call (.Name x p) [] [] pos) (fun _ H Q => Q (.ref C) none H) := by
  intro pins s σ H Q I h
  refine wpAny_Call_Name_kw (ld_glob I hg gC ?_ hdb)
  refine PySem.W.callWith_K0 I.kIn kC ?_
  show wpAny _ _ (call (.ref C) []) _ _ _
  obtain ⟨bm, N, nm, qn, bs, hdct, sn, sub, ab, col, dd, k0, k1, k2, k3, k5, mN, hC, hN, hni, T⟩ := exc_obj I.kIn q
  refine wpAny_call_exc_subT F T hC hN hni (fun h' e hm => ?_) (Nat.zero_le _)
  exact mk_of I hm r h (I.hok.gone hm.new)
end L2
namespace Cl
open PySem L2
/-- an error class without own __init__ -/
structure ExIn (X : Cx) (c : Str) : Prop where
  ex : ∃ (C : Addr) (bmB : List Value) (B newId initId : String), ExcBaseFacts B newId initId bmB ∧ PySem.W.excIn X.K C bmB newId = true ∧ X.mg c = some (.ref C) ∧ PySem.W.keepIn X.K (.ref C) = true ∧ Raises X (.ref C) ∧ Apart X.K X.mg c C
/-- NoPlace -/
structure PlIn (X : Cx) : Prop where
  ex : ∃ (C fI : Addr), PySem.NoPX.PlTxt X.K X.mg C fI ∧ Apart X.K X.mg "NoPlace" C
section
variable {cf : CF} {X : Cx} {W : WX} {a b c : CE} {ea eb ec : Expr} {pos p : Pos} {s : Stmt} {ss rs : List Stmt} {cs : CS} {ks ls : CSs}
theorem ss_rai0 {x : Str} {pos2 : Pos} (hc : X.calm = true) (tk : Takes X W) (E : ExIn X x) (hg : Gl X x) (hdb : (x == ("__debug__" : Str)) = false) : SS cf X W (.rai x .no) (.Raise (some (.Call (.Name x p) [] [] pos)) none pos2) := by
  obtain ⟨C, bmB, B, ni, ii, F, q, gC, kC, r, ap⟩ := E.ex
  refine PS_mono (ps_raise hc tk (pmk_own0 F q gC kC r hg hdb)) fun N σ H h => ?_
  obtain ⟨L, M, st, env, o, hE, hR, e, k⟩ := h
  cases e
  exact k M H σ (.ref C) none (.refl _ _) hR hE ⟨C, gC, rfl, ap, fun v hv => nomatch hv⟩
theorem ss_raiP {k : Nat} {pos2 : Pos} (hc : X.calm = true) (tk : Takes X W) (hr : Room k X.A) (E : PlIn X) (hg : Gl X "NoPlace") (hp : plE ea = true) (ha : SX cf X W a ea) : SS cf X W (.rai "NoPlace" (.so a)) (.Raise (some (.Call (.Name "NoPlace" p) [ea] [] pos)) none pos2) := by
  obtain ⟨C, fI, T, ap⟩ := E.ex
  refine PS_mono (ps_raisePl hc T hr tk (pa_cons ha pa_nil (star_cons hp)) hg (star_cons hp) rfl) fun N σ H h => ?_
  obtain ⟨L, M, st, env, o, hE, hR, e, q⟩ := h
  refine ⟨L, M, st, env, hE, hR, (thnS_run (m := evX cf a env) (k := fun x st1 => some (.ex ⟨"NoPlace", some x.val⟩ env st1)) hE e q).mono fun st1 x k => OkE.of fun M1 H1 v e1 R1 v1 => ?_⟩
  obtain ⟨o, ho, q⟩ := k M1 H1 e1
  cases ho
  refine ⟨v, rfl, fun d hd => ?_⟩
  have nw : Ext M1 H1 M1 (upd H1 d (.xd [("place", v)])) := .new hd (R1.fresh hd)
  exact q M1 _ σ (.ref C) (some d) nw (R1.new hd) ((hE.ext e1).ext nw) ⟨C, T.gC, rfl, ap, fun w hw => by cases hw; exact ⟨d, v, rfl, upd_same, R1.fresh hd, R1.freshL hd, v1.ext nw⟩⟩
/-! ### try -/
theorem try_body {h : Hd} {W' : WX} {N : Ends} {L M : List Addr} {H : Hp} {o o' : Out}
    (e : (match o' with | .ex x env1 st1 => if h.cls.contains x.cls then suRun x env1 st1 h else some (.ex x env1 st1) | o => some o) = some o) (q : OkS X.K X.mg L W N M H o)
    (hw : ∀ x env1 st1, o' = .ex x env1 st1 → ∀ M' H' σ' cls dd, Ext M H M' H' → Rel X.K L M' st1 H' → RelE X.K L M' H' σ' env1 → XVal X.K X.mg L M' H' cls dd x → W' cls dd σ' H') : OkS X.K X.mg L W' N M H o' := by
  cases o' with
  | nx env st => cases e; exact q
  | bk env st => cases e; exact q
  | ct env st => cases e; exact q
  | rt d st => cases e; exact q
  | ex x env1 st1 => exact hw x env1 st1 rfl
/-- what a suite without a name does -/
def suC (h : Hd) : Option CSs := match h.as, h.su with
  | none, .ret (.str s) => some (.cons (.ret (.str s)) .nil)
  | none, .ret .non => some (.cons (.ret .non) .nil)
  | none, .ret (.bl b) => some (.cons (.ret (.bl b)) .nil)
  | none, .asg i .non => some (.cons (.asg (.nm i) .non) .nil)
  | _, _ => none
theorem suC_run {h : Hd} {k : CSs} {x : XD} {env : Env} {st : Store} {o : Out} (e : suC h = some k) (r : suRun x env st h = some o) : evSs cf k env st = some o := by
  obtain ⟨cl, as, su⟩ := h
  unfold suC at e
  split at e <;> first | (cases e; done) | skip
  all_goals
    rename_i h1 h2
    simp only at h1 h2
    subst h1 h2
    cases e
    first
      | (cases r; rfl)
      | skip
  all_goals
    simp only [suRun] at r
    split at r
    · cases r
      rename_i hl
      simp only [evSs, evS, thnS, evX, ev, mkE, ret, E.val, bdT, if_pos hl]
    · cases r
theorem evT_eq {h : Hd} {b : CSs} {env : Env} {st : Store} {o : Out} (e : evS cf (.try1 b h) env st = some o) : ∃ o', evSs cf b env st = some o' ∧ (match o' with | .ex x env1 st1 => if h.cls.contains x.cls then suRun x env1 st1 h else some (.ex x env1 st1) | o => some o) = some o := by
  have e : (match evSs cf b env st with
    | some (.ex x env1 st1) => if h.cls.contains x.cls then suRun x env1 st1 h else some (.ex x env1 st1)
    | o => o) = some o := e
  split at e
  · rename_i h1
    exact ⟨_, h1, e⟩
  · rename_i hn
    refine ⟨o, e, ?_⟩
    cases o with
    | ex x env1 st1 => exact absurd e (hn x env1 st1)
    | _ => rfl
theorem ss_try1 {h : Hd} {hk : CSs} {cn : Str} {np pos' : Pos} {b₀ : Stmt} {suite : List Stmt} (hs : X.stack = X.env :: X.outer) (hf : X.env.frame = some X.env.locals) (tk : Takes X W) {C : Addr} (gC : X.mg cn = some (.ref C)) (hg : Gl X cn) (hdb : (cn == ("__debug__" : Str)) = false) (hcn : h.cls = [cn]) (hec : cn ∈ ecs) (hsu : suC h = some hk)
    (hb : ∀ (W' : WX) (pn : List (Addr × Obj)) (xe : Value → Shared → Prop), Takes (X.tr pn xe) W' → PassesOwn (model X.prog X.w) X.A X.env xe → SSs cf (X.tr pn xe) W' ks ss)
    (hsui : ∀ (a : Addr) (pn : List (Addr × Obj)), SSs cf (X.suite a pn) W hk (b₀ :: suite)) :
    SS cf X W (.try1 ks h) (.Try ss [.ExceptHandler (some (.Name cn np)) none (b₀ :: suite) pos'] [] [] pos) := by
  refine PS_mono (ps_try_only hs hf ⟨hg, hdb, .inl gC⟩ tk (tb := fun W' => LS X.K X.mg W' (evSs cf ks)) hb (ts := fun a cls d => LS X.K X.mg W (evSs cf hk)) (fun a oe cls d pn _ _ => hsui a ((a, oe) :: pn))) fun N σ H hh => ?_
  obtain ⟨L, M, st, env, o, hE, hR, e, q⟩ := hh
  obtain ⟨o', e1, e2⟩ := evT_eq e
  refine ⟨L, M, st, env, o', hE, hR, e1, try_body e2 q fun x env1 st1 eo M' H' σ' cls dd ex r rE v => ?_⟩
  subst eo
  obtain ⟨C1, h1, h2, ap, h3⟩ := id v
  refine ⟨_, by rw [h2]; exact ap cn hec C gC, fun hb2 a ha => ?_, fun hb2 => ?_⟩
  · have hx : x.cls = cn := of_decide_eq_true hb2
    dsimp only at e2
    rw [hcn, hx, if_pos (by simp)] at e2
    exact ⟨L, M', st1, env1, o, rE, r, suC_run hsu e2, q.mono ex⟩
  · have hx : ¬ x.cls = cn := of_decide_eq_false hb2
    dsimp only at e2
    rw [hcn, if_neg (by simpa using fun z => hx z)] at e2
    cases e2
    exact q M' H' σ' cls dd ex r rE v
/-- except NoPlace as n: return ('..', n.place) -/
theorem ss_tryP {i k1 k2 : Nat} {n sx : Str} {np pos' p1 p2 p3 p4 p5 : Pos} (hs : X.stack = X.env :: X.outer) (hf : X.env.frame = some X.env.locals) (tk : Takes X W) (E : PlIn X) (hg : Gl X "NoPlace") (hN : X.N.Nodup) (hi : X.N[i]? = some n) (hln : X.env.scope.names.lookup n = some .local) (h1 : (n == ("__debug__" : Str)) = false) (h2 : (n == ("__classdict__" : Str)) = false)
    (hb : ∀ (W' : WX) (pn : List (Addr × Obj)) (xe : Value → Shared → Prop), Takes (X.tr pn xe) W' → PassesOwn (model X.prog X.w) X.A X.env xe → SSs cf (X.tr pn xe) W' ks ss) :
    SS cf X W (.try1 ks ⟨["NoPlace"], some i, .retP sx "place"⟩) (.Try ss [.ExceptHandler (some (.Name "NoPlace" np)) (some n) [.Return (some (.Tuple [.Constant (.str sx) k1 p1, .Attribute (.Name n p2) "place" p3] k2 p4)) p5] pos'] [] [] pos) := by
  obtain ⟨C, fI, T, ap0⟩ := E.ex
  refine PS_mono (ps_try_as (i := i) hs hf hN hi hln ⟨hg, by decide, .inl T.gC⟩ tk (tb := fun W' => LS X.K X.mg W' (evSs cf ks)) hb (ts := fun a cls d => tRet (tTup (tCons (tC (.str sx)) (tCons (tByPl C a cls d (tVar i)) tNil))))
    (fun a oe cls d pn hz hfl => pss_one (ps_ret (pe_tup (pa_cons pe_str (pa_cons (pe_byPl T hz hfl (pe_var hi (.inl hln) h1 h2) rfl) pa_nil rfl) rfl))))) fun N σ H hh => ?_
  obtain ⟨L, M, st, env, o, hE, hR, e, q⟩ := hh
  obtain ⟨o', e1, e2⟩ := evT_eq e
  refine ⟨L, M, st, env, o', hE, hR, e1, try_body e2 q fun x env1 st1 eo M' H' σ' cls dd ex r rE v => ?_⟩
  subst eo
  obtain ⟨C1, g1, g2, ap, g3⟩ := id v
  refine ⟨_, by rw [g2]; exact ap "NoPlace" (by decide) C T.gC, fun hb2 a ha => ?_, fun hb2 => ?_⟩
  · have hx : x.cls = "NoPlace" := of_decide_eq_true hb2
    dsimp only at e2
    rw [hx, if_pos (by simp)] at e2
    obtain ⟨xc, xa⟩ := x
    have hx : xc = "NoPlace" := hx
    subst hx
    simp only [suRun] at e2
    cases xa with
    | none => cases e2
    | some w =>
    dsimp only at e2
    split at e2
    case isFalse => cases e2
    rename_i hil0
    · cases e2
      obtain ⟨d, y, rfl, k2, k3, k4, k5⟩ := g3 w rfl
      have hC : C1 = C := by
        have := g1.symm.trans T.gC
        cases this; rfl
      have hil : i < σ'.length := by rw [rE.1]; exact hil0
      refine ⟨.ref a, ?_, rfl, by rw [g2, hC], d, y, rfl, k2, ?_⟩
      · exact List.getElem?_set_self hil
      · refine ⟨by show 2 ≤ sizeLine; decide, fun p hp => ?_⟩
        exact q M' _ (.ref p) (ex.trans (.new hp (r.fresh hp))) (r.new hp) (r.newTup hp (.cons (.str sx) (.cons k5 .nil)))
  · have hx : ¬ x.cls = "NoPlace" := of_decide_eq_false hb2
    dsimp only at e2
    rw [if_neg (by simpa using fun z => hx z)] at e2
    cases e2
    exact q M' H' σ' cls dd ex r rE v
end
end Cl

/-! Cl, part N: that a def's text is a clean program, as a test. -/
namespace Cl
open PySem L2

/-! ### what is known of a program -/
structure Inf where
  N : List Str
  fs : List Str
  ex : List Str
  pl : Bool
def btn : List Str := ["len", "tuple", "list", "abs", "int", "max", "min", "sum", "any", "all", "sorted", "range", "enumerate", "zip", "isinstance", "bool", "str", "set"]
/-- a block's names; the block itself, where it is a comprehension's -/
structure BS where
  sc : Scope
  cl : Option Scope
def BS.inner (b : BS) (scope : Scope) : BS := ⟨relS scope b.sc, some scope⟩
def cellB (sc : Scope) (x : Str) : Bool := match sc.names.lookup x with | some .cell => true | _ => false
structure GoodE (I : Inf) (k : Nat) (cf : CF) (X : Cx) (sc : BS) : Prop where
  calm : X.calm = true
  nd : I.N.Nodup
  hN : X.N = I.N
  scE : X.env.scope = sc.sc
  room : Room k X.A
  bt : ∀ b ∈ btn, X.mg b = none
  fs : ∀ f ∈ I.fs, FnIn X k cf f
  fnc : ∀ x, (match sc.cl with | none => true | some s => cellB s x) = true → X.fn x = true
structure GoodS (I : Inf) (k : Nat) (cf : CF) (X : Cx) (sc : BS) : Prop extends GoodE I k cf X sc where
  kind : sc.sc.kind = .function
  stk : X.stack = X.env :: X.outer
  fr : X.env.frame = some X.env.locals
  own : PassesOwn (model X.prog X.w) X.A X.env X.xe
  ex : ∀ c ∈ I.ex, ExIn X c
  pl : I.pl = true → PlIn X
/-! ### names -/
def visB (sc : Scope) (x : Str) : Bool := match sc.names.lookup x with | some .local => true | some .cell => true | some .free => true | _ => false
def locB (sc : Scope) (x : Str) : Bool := match sc.names.lookup x with | some .local => true | some .cell => true | _ => false
def lclB (sc : Scope) (x : Str) : Bool := match sc.names.lookup x with | some .local => true | _ => false
def glB (sc : Scope) (x : Str) : Bool := match sc.names.lookup x with | some .globalImplicit => true | _ => false
def dbgB (x : Str) : Bool := !(x == ("__debug__" : Str)) && !(x == ("__classdict__" : Str))
def atB (I : Inf) (i : Nat) (x : Str) : Bool := match I.N[i]? with | some y => y == x | none => false
/-- a built-in's name -/
def bnB (sc : Scope) (x : Str) : Bool := btn.contains x && glB sc x
theorem visB_of {sc : Scope} {x : Str} (h : visB sc x = true) : Vis sc x := by
  unfold visB at h
  split at h
  · exact .inl ‹_›
  · exact .inr (.inl ‹_›)
  · exact .inr (.inr ‹_›)
  · cases h
theorem locB_of {sc : Scope} {x : Str} (h : locB sc x = true) : Loc sc x := by
  unfold locB at h
  split at h
  · exact .inl ‹_›
  · exact .inr ‹_›
  · cases h
theorem lclB_of {sc : Scope} {x : Str} (h : lclB sc x = true) : sc.names.lookup x = some .local := by
  unfold lclB at h
  split at h
  · assumption
  · cases h
theorem glB_of {sc : Scope} {x : Str} (h : glB sc x = true) : sc.names.lookup x = some .globalImplicit := by
  unfold glB at h
  split at h
  · assumption
  · cases h
theorem dbgB_of {x : Str} (h : dbgB x = true) : (x == ("__debug__" : Str)) = false ∧ (x == ("__classdict__" : Str)) = false := by
  unfold dbgB at h
  simp only [Bool.and_eq_true, Bool.not_eq_true'] at h
  exact h
theorem atB_of {I : Inf} {i : Nat} {x : Str} (h : atB I i x = true) : I.N[i]? = some x := by
  unfold atB at h
  split at h
  · rename_i y hy; rw [hy]; rw [beq_iff_eq.mp h]
  · cases h
def stoB (b : BS) (x : Str) : Bool := lclB b.sc x || (cellB b.sc x && match b.cl with | none => true | some s => cellB s x)
theorem cellB_of {sc : Scope} {x : Str} (h : cellB sc x = true) : sc.names.lookup x = some .cell := by
  unfold cellB at h
  split at h
  · assumption
  · cases h
section
variable {I : Inf} {k : Nat} {cf : CF} {X : Cx} {sc : BS} {x : Str} {i : Nat}
theorem GoodE.gl (g : GoodE I k cf X sc) (h : glB sc.sc x = true) : Gl X x := by
  show X.env.scope.names.lookup x = _
  rw [g.scE]; exact glB_of h
theorem GoodE.vis (g : GoodE I k cf X sc) (h : visB sc.sc x = true) : Vis X.env.scope x := by rw [g.scE]; exact visB_of h
theorem GoodE.lcl (g : GoodE I k cf X sc) (h : lclB sc.sc x = true) : X.env.scope.names.lookup x = some .local := by rw [g.scE]; exact lclB_of h
theorem GoodE.loc (g : GoodE I k cf X sc) (h : stoB sc x = true) : Loc X.env.scope x := by
  rcases Bool.or_eq_true_iff.mp h with z | z
  · exact .inl (g.lcl z)
  · exact .inr (by rw [g.scE]; exact cellB_of (Bool.and_eq_true_iff.mp z).1)
theorem GoodE.sto (g : GoodE I k cf X sc) (h : stoB sc x = true) : X.fn x = true ∨ X.env.scope.names.lookup x = some .local := by
  rcases Bool.or_eq_true_iff.mp h with z | z
  · exact .inr (g.lcl z)
  · exact .inl (g.fnc x (Bool.and_eq_true_iff.mp z).2)
theorem GoodE.at (g : GoodE I k cf X sc) (h : atB I i x = true) : X.N[i]? = some x := by rw [g.hN]; exact atB_of h
theorem GoodE.nodup (g : GoodE I k cf X sc) : X.N.Nodup := by rw [g.hN]; exact g.nd
theorem GoodE.bn (g : GoodE I k cf X sc) (h : bnB sc.sc x = true) : Gl X x ∧ X.mg x = none := by
  unfold bnB at h
  have h := Bool.and_eq_true_iff.mp h
  exact ⟨g.gl h.2, g.bt x (List.contains_iff_mem.mp h.1)⟩
theorem GoodE.hu1 (g : GoodE I k cf X sc) : X.A.units + 1 < cLine := by have := g.room.un; omega
theorem GoodE.hu65 (g : GoodE I k cf X sc) : X.A.units + 65 < cLine := by have := g.room.un; omega
theorem GoodE.blk (g : GoodE I k cf X sc) (s : Shared) (H : Hp) (scope : Scope) (C : Addr) (cl : List (Str × Addr)) (fp : List Addr) : GoodE I k cf (X.blk s H scope (compEnvC scope cl C X.env) fp) (sc.inner scope) :=
  ⟨g.calm, g.nd, g.hN, (by show relS scope X.env.scope = relS scope sc.sc; rw [g.scE]), g.room, g.bt, fun f hf => ⟨(g.fs f hf).ex⟩, fun x h => by show (scope.names.lookup x == some .cell) = true; rw [cellB_of h]; rfl⟩
theorem GoodS.tr (g : GoodS I k cf X sc) {pn : List (Addr × Obj)} {xe : Value → Shared → Prop} (h : PassesOwn (model X.prog X.w) X.A X.env xe) : GoodS I k cf (X.tr pn xe) sc :=
  { calm := g.calm, nd := g.nd, hN := g.hN, scE := g.scE, room := g.room, bt := g.bt, fs := fun f hf => ⟨(g.fs f hf).ex⟩, fnc := g.fnc, kind := g.kind, stk := g.stk, fr := g.fr, own := h, ex := fun c hc => ⟨(g.ex c hc).ex⟩, pl := fun h => ⟨(g.pl h).ex⟩ }
end
/-! ### expressions -/
inductive Tg where
  | e (x : Expr) | bs (op : BoolOp) (l : List Expr)
def Tg.norm : Tg → Tg
  | .bs _ [x] => .e x
  | t => t
def ownP (I : Inf) (own : List Nat) : List (Str × Nat) := own.map fun i => ((I.N[i]?).getD "", i)
theorem ownP_snd (I : Inf) (own : List Nat) : (ownP I own).map (·.2) = own := by
  unfold ownP
  rw [List.map_map]
  exact List.map_id own
def isConB : D → Expr → Bool
  | .non, .Constant .none _ _ => true
  | .bl b, .Constant (.bool c) _ _ => decide (b = c)
  | _, _ => false
def plainC : CE → Bool
  | .not _ => false
  | .and _ _ => false
  | .or _ _ => false
  | _ => true
theorem evT_plain {cf : CF} {c : CE} (h : plainC c = true) (env : Env) : evT cf c env = bnd (evX cf c env) fun v => fun st => lft (truD st v.val) st := by
  cases c <;> first | rfl | cases h
/-- a test's text -/
def tsB (m : Bool) (x : Expr) : Bool := !m || plT x
mutual
/-- an expression's text: as a value, or (m) as a test -/
def chk (I : Inf) (m : Bool) (sc : BS) : CE → Tg → Bool
  | .var i, t => match t.norm with
    | .e (.Name x _) => atB I i x && visB sc.sc x && dbgB x
    | _ => false
  | .int i, t => match t.norm with
    | .e (.Constant (.int j) _ _) => decide (i = j)
    | _ => false
  | .bl i, t => match t.norm with
    | .e (.Constant (.bool j) _ _) => decide (i = j)
    | _ => false
  | .non, t => match t.norm with
    | .e (.Constant .none _ _) => true
    | _ => false
  | .str i, t => match t.norm with
    | .e (.Constant (.str j) _ _) => decide (i = j)
    | _ => false
  | .bin op a b, t => match t.norm with
    | .e (.BinOp l o r _) => decide (op = o) && chk I false sc a (.e l) && chk I false sc b (.e r)
    | _ => false
  | .neg a, t => match t.norm with
    | .e (.UnaryOp .USub l _) => chk I false sc a (.e l)
    | _ => false
  | .cmp op a b, t => match t.norm with
    | .e (.Compare l [o] [r] _) => decide (op = o) && plE r && chk I false sc a (.e l) && chk I false sc b (.e r)
    | _ => false
  | .chain o1 o2 a b c, t => match t.norm with
    | .e (.Compare l [p1, p2] [r, r2] _) => decide (o1 = p1) && decide (o2 = p2) && plE r2 && chk I false sc a (.e l) && chk I false sc b (.e r) && chk I false sc c (.e r2)
    | _ => false
  | .isC a c neg, t => match t.norm with
    | .e (.Compare l [o] [r] _) => decide (o = if neg then .IsNot else .Is) && isConB c r && chk I false sc a (.e l)
    | _ => false
  | .not a, t => match t.norm with
    | .e (.UnaryOp .Not l _) => chk I m sc a (.e l)
    | _ => false
  | .and a b, t => match t.norm with
    | .bs .And (x :: y :: r) => chk I m sc a (.e x) && chk I m sc b (.bs .And (y :: r))
    | .e (.BoolOp .And (x :: y :: r) _) => chk I m sc a (.e x) && chk I m sc b (.bs .And (y :: r))
    | _ => false
  | .or a b, t => match t.norm with
    | .bs .Or (x :: y :: r) => chk I m sc a (.e x) && chk I m sc b (.bs .Or (y :: r))
    | .e (.BoolOp .Or (x :: y :: r) _) => chk I m sc a (.e x) && chk I m sc b (.bs .Or (y :: r))
    | _ => false
  | .ife t0 a b, t => match t.norm with
    | .e (.IfExp et ea eb _) => !m && chk I true sc t0 (.e et) && chk I false sc a (.e ea) && chk I false sc b (.e eb)
    | _ => false
  | .tup as, t => match t.norm with
    | .e (.Tuple es _ _) => chkA I sc as es
    | _ => false
  | .lst as, t => match t.norm with
    | .e (.List es _) => chkA I sc as es
    | _ => false
  | .adopt a, t => match t.norm with
    | .e e => !m && chk I false sc a (.e e)
    | _ => false
  | .bi f as, t => match t.norm with
    | .e (.Call (.Name n _) (e :: es) [] _) => decide (n = biName f) && bnB sc.sc n && chkA I sc as (e :: es)
    | _ => false
  | .isi a ts, t => match ts with
    | [t1] => (match t.norm with
      | .e (.Call (.Name n _) [e, .Name n2 _] [] _) => decide (n = "isinstance") && bnB sc.sc n && decide (n2 = Str.ofString (tyName t1)) && bnB sc.sc n2 && plE e && chk I false sc a (.e e)
      | _ => false)
    | [t1, t2] => (match t.norm with
      | .e (.Call (.Name n _) [e, .Tuple [.Name n2 _, .Name n3 _] _ _] [] _) => decide (n = "isinstance") && bnB sc.sc n && decide (n2 = Str.ofString (tyName t1)) && bnB sc.sc n2 && decide (n3 = Str.ofString (tyName t2)) && bnB sc.sc n3 && plE e && chk I false sc a (.e e)
      | _ => false)
    | _ => false
  | .cal f as, t => match t.norm with
    | .e (.Call (.Name n _) (e :: es) [] _) => decide (n = f) && I.fs.contains f && glB sc.sc f && dbgB f && chkA I sc as (e :: es)
    | _ => false
  | .met mi o as, t => match t.norm with
    | .e (.Call (.Attribute eo n p) es [] q) => plO eo && (p.endLine == q.line) && chk I false sc o (.e eo) && (match mi, es with
      | .append, [e] => decide (n = "append") && chkA I sc as [e]
      | .extend, [e] => decide (n = "extend") && chkA I sc as [e]
      | .pop0, [e] => decide (n = "pop") && chkA I sc as [e]
      | .pop, [] => decide (n = "pop") && (match as with | .nil => true | _ => false)
      | _, _ => false)
    | _ => false
  | .rev a, t => match t.norm with
    | .e (.Subscript e (.Slice none none (some (.UnaryOp .USub (.Constant (.int j) _ _) _)) _) _) => decide (j = 1) && chk I false sc a (.e e)
    | _ => false
  | .slc a lo hi, t => match t.norm with
    | .e (.Subscript e (.Slice el eh none _) _) => chk I false sc a (.e e) && chkO I sc lo el && chkO I sc hi eh
    | _ => false
  | .idx a i, t => match t.norm with
    | .e (.Subscript e ei _) => plE ei && chk I false sc a (.e e) && chk I false sc i (.e ei)
    | _ => false
  | .rngS lo a tup, t => match t.norm with
    | .e (.Call (.Name n _) [.Call (.Name n2 _) es [] _] [] _) => decide (n = if tup then ("tuple" : Str) else ("list" : Str)) && bnB sc.sc n && decide (n2 = "range") && bnB sc.sc n2 && (match es with
      | [e] => plE e && chkO I sc lo none && chk I false sc a (.e e)
      | [e, e2] => plE e && plE e2 && chkO I sc lo (some e) && chk I false sc a (.e e2)
      | _ => false)
    | _ => false
  | .comp g it co c own, t => match t.norm with
    | .e (.ListComp elt [⟨tg, iter, ifs, 0⟩] scope _) => chkI I sc it tg iter && blkC I.N sc.sc scope (ownP I own) && chkT I (sc.inner scope) g tg && chkC I (sc.inner scope) co ifs && chk I false (sc.inner scope) c (.e elt) && plE iter && (namesT g).all own.contains
    | _ => false
  | .lenS a, t => match t.norm with
    | .e (.Call (.Name n _) [.Call (.Name n2 _) [e] [] _] [] _) => decide (n = "len") && bnB sc.sc n && decide (n2 = "set") && bnB sc.sc n2 && plE e && chk I false sc a (.e e)
    | _ => false
  | .dctN, t => match t.norm with
    | .e (.Dict [] [] _) => true
    | _ => false
  | .dct1 a b, t => match t.norm with
    | .e (.Dict [some e] [e2] _) => chk I false sc a (.e e) && chk I false sc b (.e e2)
    | _ => false
def chkA (I : Inf) (sc : BS) : CA → List Expr → Bool
  | .nil, [] => true
  | .cons a as, e :: es => plE e && chk I false sc a (.e e) && chkA I sc as es
  | _, _ => false
def chkO (I : Inf) (sc : BS) : CO → Option Expr → Bool
  | .no, none => true
  | .so a, some e => chk I false sc a (.e e)
  | _, _ => false
def chkC (I : Inf) (sc : BS) : CO → List Expr → Bool
  | .no, [] => true
  | .so a, [e] => chk I true sc a (.e e)
  | _, _ => false
def chkI (I : Inf) (sc : BS) : CI → Expr → Expr → Bool
  | .over a, _, e => chk I false sc a (.e e)
  | .rng as, _, .Call (.Name n _) es [] _ => decide (n = "range") && bnB sc.sc n && (es.length == 1 || es.length == 2 || es.length == 3) && chkA I sc as es
  | .enm a, .Tuple _ _ _, .Call (.Name n _) [e] [] _ => decide (n = "enumerate") && bnB sc.sc n && plE e && chk I false sc a (.e e)
  | .zip a b, .Tuple _ _ _, .Call (.Name n _) [e, e2] [] _ => decide (n = "zip") && bnB sc.sc n && plE e && plE e2 && chk I false sc a (.e e) && chk I false sc b (.e e2)
  | _, _, _ => false
def chkT (I : Inf) (sc : BS) : CT → Expr → Bool
  | .nm i, .Name x _ => atB I i x && stoB sc x
  | .tup ts, .Tuple es _ _ => es.all plE && (es.length == lenTs ts) && chkTs I sc ts es
  | .sub a b, .Subscript e ei _ => plE ei && chk I false sc a (.e e) && chk I false sc b (.e ei)
  | _, _ => false
def chkTs (I : Inf) (sc : BS) : CTs → List Expr → Bool
  | .nil, [] => true
  | .cons t ts, e :: es => plE e && chkT I sc t e && chkTs I sc ts es
  | _, _ => false
end
end Cl

/-! Cl, part O: the test is right, for expressions. -/
namespace Cl
open PySem L2
section
variable (m : Bool) (cf : CF) (X : Cx) (W : WX) (c : CE)
def Pt : Tg → Prop
  | .e x => if m then ST cf X W c x else SX cf X W c x
  | .bs op l => if m then STs cf X W op c l else SXs cf X W op c l
end
section
variable {m : Bool} {cf : CF} {X : Cx} {W : WX} {c : CE} {x : Expr} {t : Tg}
theorem Pt.norm (h : Pt m cf X W c t.norm) : Pt m cf X W c t := by
  cases t with
  | e x => exact h
  | bs op l =>
    match l, h with
    | [], h => exact h
    | [x], h =>
      cases m with
      | true => exact sts_one h
      | false => exact sxs_one h
    | _ :: _ :: _, h => exact h
theorem Pt.plain (hp : plT x = true) (hc : plainC c = true) (h : SX cf X W c x) : Pt m cf X W c (.e x) := by
  cases m with
  | false => exact h
  | true => exact st_plain hp (evT_plain hc) h
theorem Pt.at {t' : Tg} (e : t.norm = t') (h : Pt m cf X W c t') : Pt m cf X W c t := Pt.norm (by rw [e]; exact h)
theorem isConB_of {d : D} {e : Expr} (h : isConB d e = true) : ∃ v, IsCon d e v := by
  unfold isConB at h
  split at h
  · exact ⟨_, .non _ _⟩
  · have e := of_decide_eq_true h; subst e; exact ⟨_, .bl _ _ _⟩
  · cases h
end
theorem ands {a b : Bool} (h : (a && b) = true) : a = true ∧ b = true := Bool.and_eq_true_iff.mp h
section
variable {I : Inf} {k : Nat} {cf : CF}
theorem chkA_all {sc : BS} : ∀ {as : CA} {es : List Expr}, chkA I sc as es = true → es.all plE = true ∧ lenA as = es.length
  | .nil, [], _ => ⟨rfl, rfl⟩
  | .nil, _ :: _, h => by simp [chkA] at h
  | .cons a as, [], h => by simp [chkA] at h
  | .cons a as, e :: es, h => by
    simp only [chkA] at h
    have ⟨h1, h2⟩ := ands h
    have ih := chkA_all h2
    exact ⟨by rw [List.all_cons, (ands h1).1, ih.1]; rfl, by show lenA as + 1 = es.length + 1; rw [ih.2]⟩
mutual
theorem chk_ok : ∀ (c : CE) (m : Bool) (X : Cx) (sc : BS) (W : WX) (t : Tg), GoodE I k cf X sc → Takes X W → chk I m sc c t = true → Pt m cf X W c t
  | .var i, m, X, sc, W, t, g, tk, h => by
    unfold chk at h
    split at h
    · rename_i x p e
      have ⟨h1, h2⟩ := ands h
      have ⟨h3, h4⟩ := ands h1
      exact .at e (.plain rfl rfl (sx_var (g.at h3) (g.vis h4) (dbgB_of h2).1 (dbgB_of h2).2))
    · cases h
  | .int i, m, X, sc, W, t, g, tk, h => by
    unfold chk at h
    split at h
    · rename_i e
      have := of_decide_eq_true h; subst this
      exact .at e (.plain rfl rfl sx_int)
    · cases h
  | .bl i, m, X, sc, W, t, g, tk, h => by
    unfold chk at h
    split at h
    · rename_i e
      have := of_decide_eq_true h; subst this
      exact .at e (.plain rfl rfl sx_bl)
    · cases h
  | .non, m, X, sc, W, t, g, tk, h => by
    unfold chk at h
    split at h
    · rename_i e
      exact .at e (.plain rfl rfl sx_non)
    · cases h
  | .str i, m, X, sc, W, t, g, tk, h => by
    unfold chk at h
    split at h
    · rename_i e
      have := of_decide_eq_true h; subst this
      exact .at e (.plain rfl rfl sx_str)
    · cases h
  | .bin op a b, m, X, sc, W, t, g, tk, h => by
    unfold chk at h
    split at h
    · rename_i l o r p e
      have ⟨h1, h2⟩ := ands h
      have ⟨h3, h4⟩ := ands h1
      have := of_decide_eq_true h3; subst this
      exact .at e (.plain rfl rfl (sx_bin (chk_ok a false X sc W _ g tk h4) (chk_ok b false X sc W _ g tk h2)))
    · cases h
  | .neg a, m, X, sc, W, t, g, tk, h => by
    unfold chk at h
    split at h
    · rename_i l p e
      exact .at e (.plain rfl rfl (sx_neg (chk_ok a false X sc W _ g tk h)))
    · cases h
  | .cmp op a b, m, X, sc, W, t, g, tk, h => by
    unfold chk at h
    split at h
    · rename_i l o r p e
      have ⟨h1, h2⟩ := ands h
      have ⟨h3, h4⟩ := ands h1
      have ⟨h5, h6⟩ := ands h3
      have := of_decide_eq_true h5; subst this
      refine .at e ?_
      cases m with
      | false => exact sx_cmp g.hu65 h6 (chk_ok a false X sc W _ g tk h4) (chk_ok b false X sc W _ g tk h2)
      | true => exact st_cmp g.hu65 h6 (chk_ok a false X sc W _ g tk h4) (chk_ok b false X sc W _ g tk h2)
    · cases h
  | .chain o1 o2 a b c, m, X, sc, W, t, g, tk, h => by
    unfold chk at h
    split at h
    · rename_i l p1 p2 r r2 p e
      have ⟨h1, h2⟩ := ands h
      have ⟨h3, h4⟩ := ands h1
      have ⟨h5, h6⟩ := ands h3
      have ⟨h7, h8⟩ := ands h5
      have ⟨h9, h0⟩ := ands h7
      have := of_decide_eq_true h9; subst this
      have := of_decide_eq_true h0; subst this
      refine .at e ?_
      cases m with
      | false => exact sx_chain g.hu65 h8 (chk_ok a false X sc W _ g tk h6) (chk_ok b false X sc W _ g tk h4) (chk_ok c false X sc W _ g tk h2)
      | true => exact st_chain g.hu65 h8 (chk_ok a false X sc W _ g tk h6) (chk_ok b false X sc W _ g tk h4) (chk_ok c false X sc W _ g tk h2)
    · cases h
  | .isC a c neg, m, X, sc, W, t, g, tk, h => by
    unfold chk at h
    split at h
    · rename_i l o r p e
      have ⟨h1, h2⟩ := ands h
      have ⟨h3, h4⟩ := ands h1
      have := of_decide_eq_true h3; subst this
      obtain ⟨v, hv⟩ := isConB_of h4
      refine .at e ?_
      cases m with
      | false => exact sx_isC hv (chk_ok a false X sc W _ g tk h2)
      | true => exact st_isC hv (chk_ok a false X sc W _ g tk h2)
    · cases h
  | .not a, m, X, sc, W, t, g, tk, h => by
    unfold chk at h
    split at h
    · rename_i l p e
      have z := chk_ok a m X sc W _ g tk h
      refine .at e ?_
      cases m with
      | false => exact sx_not z
      | true => exact st_not z
    · cases h
  | .and a b, m, X, sc, W, t, g, tk, h => by
    unfold chk at h
    split at h
    · rename_i x y r e
      have ⟨h1, h2⟩ := ands h
      have z1 := chk_ok a m X sc W _ g tk h1
      have z2 := chk_ok b m X sc W _ g tk h2
      refine .at e ?_
      cases m with
      | false => exact sxs_and z1 z2
      | true => exact sts_and z1 z2
    · rename_i x y r p e
      have ⟨h1, h2⟩ := ands h
      have z1 := chk_ok a m X sc W _ g tk h1
      have z2 := chk_ok b m X sc W _ g tk h2
      refine .at e ?_
      cases m with
      | false => exact sxs_and z1 z2 p
      | true => exact (sts_and z1 z2 p).pt
    · cases h
  | .or a b, m, X, sc, W, t, g, tk, h => by
    unfold chk at h
    split at h
    · rename_i x y r e
      have ⟨h1, h2⟩ := ands h
      have z1 := chk_ok a m X sc W _ g tk h1
      have z2 := chk_ok b m X sc W _ g tk h2
      refine .at e ?_
      cases m with
      | false => exact sxs_or z1 z2
      | true => exact sts_or z1 z2
    · rename_i x y r p e
      have ⟨h1, h2⟩ := ands h
      have z1 := chk_ok a m X sc W _ g tk h1
      have z2 := chk_ok b m X sc W _ g tk h2
      refine .at e ?_
      cases m with
      | false => exact sxs_or z1 z2 p
      | true => exact (sts_or z1 z2 p).pt
    · cases h
  | .ife t0 a b, m, X, sc, W, t, g, tk, h => by
    unfold chk at h
    split at h
    · rename_i et ea eb p e
      have ⟨h1, h2⟩ := ands h
      have ⟨h3, h4⟩ := ands h1
      have ⟨h5, h6⟩ := ands h3
      refine .at e ?_
      cases m with
      | false => exact sx_ife (chk_ok t0 true X sc W _ g tk h6) (chk_ok a false X sc W _ g tk h4) (chk_ok b false X sc W _ g tk h2)
      | true => cases h5
    · cases h
  | .tup as, m, X, sc, W, t, g, tk, h => by
    unfold chk at h
    split at h
    · rename_i es kk p e
      exact .at e (.plain rfl rfl (sx_tup (chkA_ok as X sc W es g tk h)))
    · cases h
  | .lst as, m, X, sc, W, t, g, tk, h => by
    unfold chk at h
    split at h
    · rename_i es p e
      exact .at e (.plain rfl rfl (sx_lst (chkA_ok as X sc W es g tk h)))
    · cases h
  | .adopt a, m, X, sc, W, t, g, tk, h => by
    unfold chk at h
    split at h
    · rename_i x e
      have ⟨h1, h2⟩ := ands h
      refine .at e ?_
      cases m with
      | false => exact sx_adopt (chk_ok a false X sc W _ g tk h2)
      | true => cases h1
    · cases h
  | .bi f as, m, X, sc, W, t, g, tk, h => by
    unfold chk at h
    split at h
    · rename_i n pn x es p e
      have ⟨h1, h2⟩ := ands h
      have ⟨h3, h4⟩ := ands h1
      have := of_decide_eq_true h3; subst this
      exact .at e (.plain rfl rfl (sx_bi g.calm (g.bn h4).1 (g.bn h4).2 (chkA_all h2).1 (chkA_ok as X sc W _ g tk h2)))
    · cases h
  | .isi a ts, m, X, sc, W, t, g, tk, h => by
    unfold chk at h
    split at h
    · rename_i t1
      split at h
      · rename_i n pn x n2 pn2 p e
        have ⟨h1, h2⟩ := ands h
        have ⟨h3, h4⟩ := ands h1
        have ⟨h5, h6⟩ := ands h3
        have ⟨h7, h8⟩ := ands h5
        have ⟨h9, h0⟩ := ands h7
        have := of_decide_eq_true h9; subst this
        have := of_decide_eq_true h8; subst this
        exact .at e (.plain rfl rfl (sx_isi (g.bn h0).1 (g.bn h0).2 (g.bn h6).1 (g.bn h6).2 h4 (chk_ok a false X sc W _ g tk h2)))
      · cases h
    · rename_i t1 t2
      split at h
      · rename_i n pn x n2 pn2 n3 pn3 _ _ p e
        have ⟨h1, h2⟩ := ands h
        have ⟨h3, h4⟩ := ands h1
        have ⟨h5, h6⟩ := ands h3
        have ⟨h7, h8⟩ := ands h5
        have ⟨h9, h0⟩ := ands h7
        have ⟨k1, k2⟩ := ands h9
        have ⟨k3, k4⟩ := ands k1
        have := of_decide_eq_true k3; subst this
        have := of_decide_eq_true k2; subst this
        have := of_decide_eq_true h8; subst this
        exact .at e (.plain rfl rfl (sx_isi2 (g.bn k4).1 (g.bn k4).2 (g.bn h0).1 (g.bn h0).2 (g.bn h6).1 (g.bn h6).2 h4 (chk_ok a false X sc W _ g tk h2)))
      · cases h
    · cases h
  | .cal f as, m, X, sc, W, t, g, tk, h => by
    unfold chk at h
    split at h
    · rename_i n pn x es p e
      have ⟨h1, h2⟩ := ands h
      have ⟨h3, h4⟩ := ands h1
      have ⟨h5, h6⟩ := ands h3
      have ⟨h7, h8⟩ := ands h5
      have := of_decide_eq_true h7; subst this
      exact .at e (.plain rfl rfl (sx_cal tk g.room (g.fs _ (List.contains_iff_mem.mp h8)) (g.gl h6) (dbgB_of h4).1 (chkA_all h2).1 (chkA_ok as X sc W _ g tk h2)))
    · cases h
  | .met mi o as, m, X, sc, W, t, g, tk, h => by
    unfold chk at h
    split at h
    · rename_i eo n pa es p e
      have ⟨h1, h2⟩ := ands h
      have ⟨h3, h4⟩ := ands h1
      have ⟨h5, h6⟩ := ands h3
      have zo := chk_ok o false X sc W _ g tk h4
      refine .at e ?_
      split at h2
      · have ⟨h7, h8⟩ := ands h2
        have := of_decide_eq_true h7; subst this
        have z := (chkA_all h8).1
        simp only [List.all_cons, List.all_nil, Bool.and_true] at z
        exact .plain rfl rfl (sx_append h5 z h6 zo (chkA_ok as X sc W _ g tk h8))
      · have ⟨h7, h8⟩ := ands h2
        have := of_decide_eq_true h7; subst this
        have z := (chkA_all h8).1
        simp only [List.all_cons, List.all_nil, Bool.and_true] at z
        exact .plain rfl rfl (sx_extend h5 z h6 zo (chkA_ok as X sc W _ g tk h8))
      · have ⟨h7, h8⟩ := ands h2
        have := of_decide_eq_true h7; subst this
        have z := (chkA_all h8).1
        simp only [List.all_cons, List.all_nil, Bool.and_true] at z
        exact .plain rfl rfl (sx_pop0 h5 z h6 zo (chkA_ok as X sc W _ g tk h8))
      · have ⟨h7, h8⟩ := ands h2
        have := of_decide_eq_true h7; subst this
        cases as with
        | nil => exact .plain rfl rfl (sx_pop h5 h6 zo)
        | cons _ _ => cases h8
      · cases h2
    · cases h
  | .rev a, m, X, sc, W, t, g, tk, h => by
    unfold chk at h
    split at h
    · rename_i x j _ _ _ _ _ e
      have ⟨h1, h2⟩ := ands h
      have := of_decide_eq_true h1; subst this
      exact .at e (.plain rfl rfl (sx_rev (chk_ok a false X sc W _ g tk h2)))
    · cases h
  | .slc a lo hi, m, X, sc, W, t, g, tk, h => by
    unfold chk at h
    split at h
    · rename_i x el eh _ _ e
      have ⟨h1, h2⟩ := ands h
      have ⟨h3, h4⟩ := ands h1
      exact .at e (.plain rfl rfl (sx_slc (chk_ok a false X sc W _ g tk h3) (chkO_ok lo X sc W _ g tk h4) (chkO_ok hi X sc W _ g tk h2)))
    · cases h
  | .idx a i, m, X, sc, W, t, g, tk, h => by
    unfold chk at h
    split at h
    · rename_i x ei _ e
      have ⟨h1, h2⟩ := ands h
      have ⟨h3, h4⟩ := ands h1
      exact .at e (.plain rfl rfl (sx_idx g.hu1 h3 (chk_ok a false X sc W _ g tk h4) (chk_ok i false X sc W _ g tk h2)))
    · cases h
  | .rngS lo a tup, m, X, sc, W, t, g, tk, h => by
    unfold chk at h
    split at h
    · rename_i n _ n2 _ es _ _ e
      have ⟨h1, h2⟩ := ands h
      have ⟨h3, h4⟩ := ands h1
      have ⟨h5, h6⟩ := ands h3
      have ⟨h7, h8⟩ := ands h5
      have := of_decide_eq_true h7; subst this
      have := of_decide_eq_true h6; subst this
      refine .at e ?_
      split at h2
      · have ⟨k1, k2⟩ := ands h2
        have ⟨k3, k4⟩ := ands k1
        cases lo with
        | so _ => simp [chkO] at k4
        | no => exact .plain rfl rfl (sx_rngS1 g.calm (g.bn h4).1 (g.bn h4).2 (g.bn h8).1 (g.bn h8).2 k3 (chk_ok a false X sc W _ g tk k2))
      · have ⟨k1, k2⟩ := ands h2
        have ⟨k3, k4⟩ := ands k1
        have ⟨k5, k6⟩ := ands k3
        cases lo with
        | no => simp [chkO] at k4
        | so b =>
          simp only [chkO] at k4
          exact .plain rfl rfl (sx_rngS2 g.calm (g.bn h4).1 (g.bn h4).2 (g.bn h8).1 (g.bn h8).2 k5 k6 (chk_ok b false X sc W _ g tk k4) (chk_ok a false X sc W _ g tk k2))
      · cases h2
    · cases h
  | .comp gt it co c own, m, X, sc, W, t, g, tk, h => by
    unfold chk at h
    split at h
    · rename_i elt tg iter ifs scope p e
      have ⟨h1, h2⟩ := ands h
      have ⟨h3, h4⟩ := ands h1
      have ⟨h5, h6⟩ := ands h3
      have ⟨h7, h8⟩ := ands h5
      have ⟨h9, h0⟩ := ands h7
      have ⟨k1, k2⟩ := ands h9
      refine .at e (.plain rfl rfl ?_)
      have z := sx_comp (W := W) (pos := p) (own := ownP I own) g.calm g.nodup (chkI_ok it X sc W tg iter g tk k1) (by rw [g.hN, g.scE]; exact k2)
        (fun s H C cl fp => chkT_ok gt _ (sc.inner scope) tg (g.blk s H scope C cl fp) h0) (fun s H C cl fp => chkC_ok co _ (sc.inner scope) ifs (g.blk s H scope C cl fp) h8)
        (fun s H C cl fp => chk_ok c false _ (sc.inner scope) W0 (.e elt) (g.blk s H scope C cl fp) takes0 h6) (by intro _; cases iter <;> first | rfl | cases h4)
        (fun i hi => by rw [ownP_snd]; exact List.contains_iff_mem.mp (List.all_eq_true.mp h2 i hi))
      rw [ownP_snd] at z
      exact z
    · cases h
  | .lenS a, m, X, sc, W, t, g, tk, h => by
    unfold chk at h
    split at h
    · rename_i n _ n2 _ x _ _ e
      have ⟨h1, h2⟩ := ands h
      have ⟨h3, h4⟩ := ands h1
      have ⟨h5, h6⟩ := ands h3
      have ⟨h7, h8⟩ := ands h5
      have ⟨h9, h0⟩ := ands h7
      have := of_decide_eq_true h9; subst this
      have := of_decide_eq_true h8; subst this
      exact .at e (.plain rfl rfl (sx_lenS g.calm (g.bn h0).1 (g.bn h0).2 (g.bn h6).1 (g.bn h6).2 h4 (chk_ok a false X sc W _ g tk h2)))
    · cases h
  | .dctN, m, X, sc, W, t, g, tk, h => by
    unfold chk at h
    split at h
    · rename_i e
      exact .at e (.plain rfl rfl sx_dctN)
    · cases h
  | .dct1 a b, m, X, sc, W, t, g, tk, h => by
    unfold chk at h
    split at h
    · rename_i x y _ e
      have ⟨h1, h2⟩ := ands h
      exact .at e (.plain rfl rfl (sx_dct1 g.hu1 (chk_ok a false X sc W _ g tk h1) (chk_ok b false X sc W _ g tk h2)))
    · cases h
theorem chkA_ok : ∀ (as : CA) (X : Cx) (sc : BS) (W : WX) (es : List Expr), GoodE I k cf X sc → Takes X W → chkA I sc as es = true → SA cf X W as es
  | .nil, X, sc, W, [], g, tk, h => sa_nil
  | .nil, X, sc, W, _ :: _, g, tk, h => by simp [chkA] at h
  | .cons a as, X, sc, W, [], g, tk, h => by simp [chkA] at h
  | .cons a as, X, sc, W, e :: es, g, tk, h => by
    simp only [chkA] at h
    have ⟨h1, h2⟩ := ands h
    have ⟨h3, h4⟩ := ands h1
    exact sa_cons h3 (chk_ok a false X sc W (.e e) g tk h4) (chkA_ok as X sc W es g tk h2)
theorem chkO_ok : ∀ (o : CO) (X : Cx) (sc : BS) (W : WX) (e : Option Expr), GoodE I k cf X sc → Takes X W → chkO I sc o e = true → SO cf X W o e
  | .no, X, sc, W, none, g, tk, h => so_no
  | .no, X, sc, W, some _, g, tk, h => by simp [chkO] at h
  | .so a, X, sc, W, none, g, tk, h => by simp [chkO] at h
  | .so a, X, sc, W, some e, g, tk, h => so_so (chk_ok a false X sc W (.e e) g tk (by simpa only [chkO] using h))
theorem chkC_ok : ∀ (o : CO) (X : Cx) (sc : BS) (es : List Expr), GoodE I k cf X sc → chkC I sc o es = true → SC cf X o es
  | .no, X, sc, [], g, h => sc_no
  | .no, X, sc, _ :: _, g, h => by simp [chkC] at h
  | .so a, X, sc, [], g, h => by simp [chkC] at h
  | .so a, X, sc, [e], g, h => sc_so (chk_ok a true X sc W0 (.e e) g takes0 (by simpa only [chkC] using h))
  | .so a, X, sc, _ :: _ :: _, g, h => by simp [chkC] at h
theorem chkI_ok : ∀ (ci : CI) (X : Cx) (sc : BS) (W : WX) (tg e : Expr), GoodE I k cf X sc → Takes X W → chkI I sc ci tg e = true → SI cf X W tg ci e
  | .over a, X, sc, W, tg, e, g, tk, h => si_over (chk_ok a false X sc W (.e e) g tk (by simpa only [chkI] using h))
  | .rng as, X, sc, W, tg, e, g, tk, h => by
    unfold chkI at h
    split at h
    · rename_i q; cases q
    · rename_i as' n _ es _ q
      cases q
      have ⟨h1, h2⟩ := ands h
      have ⟨h3, h4⟩ := ands h1
      have ⟨h5, h6⟩ := ands h3
      have := of_decide_eq_true h5; subst this
      have ⟨z1, z2⟩ := chkA_all h2
      have zs := chkA_ok as X sc W es g tk h2
      match es, z1, z2, zs with
      | [], _, _, _ => cases h4
      | [e1], z1, z2, zs =>
        simp only [List.all_cons, List.all_nil, Bool.and_true] at z1
        refine si_rng1 (g.bn h6).1 (g.bn h6).2 z1 zs ?_
        cases as with
        | nil => cases z2
        | cons a as => cases as with
          | nil => exact ⟨_, rfl⟩
          | cons _ _ => simp [lenA] at z2
      | [e1, e2], z1, z2, zs =>
        simp only [List.all_cons, List.all_nil, Bool.and_true] at z1
        have ⟨y1, y2⟩ := ands z1
        refine si_rng2 (g.bn h6).1 (g.bn h6).2 y1 y2 zs ?_
        cases as with
        | nil => cases z2
        | cons a as => cases as with
          | nil => cases z2
          | cons b as => cases as with
            | nil => exact ⟨_, _, rfl⟩
            | cons _ _ => simp [lenA] at z2
      | [e1, e2, e3], z1, z2, zs =>
        simp only [List.all_cons, List.all_nil, Bool.and_true] at z1
        have ⟨y1, y2⟩ := ands z1
        have ⟨y3, y4⟩ := ands y2
        exact si_rng3 (g.bn h6).1 (g.bn h6).2 y1 y3 y4 zs z2
      | _ :: _ :: _ :: _ :: _, _, _, _ => simp at h4
    · rename_i q; cases q
    · rename_i q; cases q
    · cases h
  | .enm a, X, sc, W, tg, e, g, tk, h => by
    unfold chkI at h
    split at h
    · rename_i q; cases q
    · rename_i q; cases q
    · rename_i q
      cases q
      have ⟨h1, h2⟩ := ands h
      have ⟨h3, h4⟩ := ands h1
      have ⟨h5, h6⟩ := ands h3
      have := of_decide_eq_true h5; subst this
      exact si_enm (g.bn h6).1 (g.bn h6).2 h4 (chk_ok a false X sc W _ g tk h2)
    · rename_i q; cases q
    · cases h
  | .zip a b, X, sc, W, tg, e, g, tk, h => by
    unfold chkI at h
    split at h
    · rename_i q; cases q
    · rename_i q; cases q
    · rename_i q; cases q
    · rename_i q
      cases q
      have ⟨h1, h2⟩ := ands h
      have ⟨h3, h4⟩ := ands h1
      have ⟨h5, h6⟩ := ands h3
      have ⟨h7, h8⟩ := ands h5
      have ⟨h9, h0⟩ := ands h7
      have := of_decide_eq_true h9; subst this
      exact si_zip (g.bn h0).1 (g.bn h0).2 h8 h6 (chk_ok a false X sc W _ g tk h4) (chk_ok b false X sc W _ g tk h2)
    · cases h
theorem chkT_ok : ∀ (ct : CT) (X : Cx) (sc : BS) (e : Expr), GoodE I k cf X sc → chkT I sc ct e = true → SG cf X ct e
  | .nm i, X, sc, e, g, h => by
    cases e <;> simp only [chkT] at h <;> first | (cases h; done) | skip
    have ⟨h1, h2⟩ := ands h
    exact sg_nm g.nodup (g.at h1) (g.loc h2) (g.sto h2)
  | .tup ts, X, sc, e, g, h => by
    cases e <;> simp only [chkT] at h <;> first | (cases h; done) | skip
    have ⟨h1, h2⟩ := ands h
    have ⟨h3, h4⟩ := ands h1
    exact sg_tup g.calm h3 (beq_iff_eq.mp h4) (chkTs_ok ts X sc _ g h2)
  | .sub a b, X, sc, e, g, h => by
    cases e <;> simp only [chkT] at h <;> first | (cases h; done) | skip
    have ⟨h1, h2⟩ := ands h
    have ⟨h3, h4⟩ := ands h1
    exact sg_sub (W := W0) g.hu1 h3 (chk_ok a false X sc W0 _ g takes0 h4) (chk_ok b false X sc W0 _ g takes0 h2)
theorem chkTs_ok : ∀ (ts : CTs) (X : Cx) (sc : BS) (es : List Expr), GoodE I k cf X sc → chkTs I sc ts es = true → SGs cf X ts es
  | .nil, X, sc, [], g, h => sgs_nil
  | .nil, X, sc, _ :: _, g, h => by simp [chkTs] at h
  | .cons _ _, X, sc, [], g, h => by simp [chkTs] at h
  | .cons t ts, X, sc, e :: es, g, h => by
    simp only [chkTs] at h
    have ⟨h1, h2⟩ := ands h
    have ⟨h3, h4⟩ := ands h1
    exact sgs_cons h3 (chkT_ok t X sc e g h4) (chkTs_ok ts X sc es g h2)
end
end
end Cl

/-! Cl, part P: the test for statements. -/
namespace Cl
open PySem L2
/-! ### the model's conditions on stores -/
def notCo : Expr → Bool
  | .ListComp .. => false
  | .SetComp .. => false
  | .DictComp .. => false
  | _ => true
theorem sw_notCo {e : Expr} {t : Option Expr} {l : Nat} {env : PySem.Env} (h : notCo e = true) : swapsWith e t l env = pure false := by
  cases e <;> first | rfl | cases h
theorem sw_noName {e : Expr} {t : Expr} {l : Nat} {env : PySem.Env} (h : ∀ x p, t ≠ .Name x p) : swapsWith e (some t) l env = pure false := by
  cases e <;> first | rfl | (cases t <;> first | rfl | exact absurd rfl (h _ _))
theorem sw_false {elt : Expr} {gs : List Comprehension} {scope : Scope} {pos py : Pos} {y : Str} {l : Nat} {env : PySem.Env} (hy : env.scope.names.lookup y ≠ some .local) :
    swapsWith (.ListComp elt gs scope pos) (some (.Name y py)) l env = pure false := by
  have ky : (env.kindOf y == some .local) = false := by
    have : env.kindOf y ≠ some .local := hy
    simpa using this
  unfold swapsWith
  simp only [ky]
  simp
def namesOf (sc : Scope) (line : Nat) (ts : List Expr) : List Str := ts.filterMap fun
  | .Name id pos => if sc.names.lookup id == some .local && pos.line == line then some id else none
  | _ => none
def lineOf (ts : List Expr) : Nat := (ts.head?.map (·.pos.line)).getD 0
/-- the tuple itself is unpacked -/
def swNone (sc : Scope) : Expr → Expr → Bool
  | .Tuple ts _ _, .Tuple vs _ _ => (!(ts.length == 2 || ts.length == 3) || vs.length != ts.length) || ((namesOf sc (lineOf ts) ts).length != ts.length)
  | .List _ _, .Tuple _ _ _ => false
  | _, _ => true
theorem swNone_of {env : PySem.Env} {t v : Expr} (h : swNone env.scope t v = true) : swappedStores [t] v env = pure none := by
  cases t <;> first | rfl | skip
  all_goals cases v <;> first | rfl | (cases h; done) | skip
  rename_i ts _ _ vs _ _
  have h : ((!(ts.length == 2 || ts.length == 3) || vs.length != ts.length) || ((namesOf env.scope (lineOf ts) ts).length != ts.length)) = true := h
  unfold swappedStores
  simp only [pure_bind]
  split
  · rfl
  · rename_i h1
    split
    · rfl
    · split
      · rfl
      · rename_i h5
        exfalso
        rcases Bool.or_eq_true_iff.mp h with z | z
        · exact h1 (Bool.or_eq_true_iff.mpr (.inl z))
        · exact h5 (Bool.or_eq_true_iff.mpr (.inl z))
/-- the stores go straight to the names -/
def swB (sc : Scope) (ts : List Expr) (xs : List Str) (vs : List Expr) : Bool :=
  vs.all plE && (ts.length == 2 || ts.length == 3) && (vs.length == ts.length) && decide (namesOf sc (lineOf ts) ts = xs) && (xs.length == ts.length) && (xs.eraseDups.length == xs.length) && !(vs.all (foldedForSure 8)) && !(vs.all (constantsAlone 8))
theorem any_star : ∀ {vs : List Expr}, vs.all plE = true → (vs.any fun | .Starred .. => true | _ => false) = false
  | [], _ => rfl
  | v :: vs, h => by
    simp only [List.all_cons] at h
    have ⟨h1, h2⟩ := ands h
    rw [List.any_cons, any_star h2]
    cases v <;> first | rfl | cases h1
theorem swB_of {env : PySem.Env} {ts vs : List Expr} {xs : List Str} {k1 k2 : Nat} {p1 p2 : Pos} (hk : env.scope.kind = .function) (h : swB env.scope ts xs vs = true) : swappedStores [.Tuple ts k1 p1] (.Tuple vs k2 p2) env = pure (some xs) := by
  have ⟨h1, h2⟩ := ands h
  have ⟨h3, h4⟩ := ands h1
  have ⟨h5, h6⟩ := ands h3
  have ⟨h7, h8⟩ := ands h5
  have ⟨h9, h0⟩ := ands h7
  have ⟨k3, k4⟩ := ands h9
  have ⟨k5, k6⟩ := ands k3
  have e0 := of_decide_eq_true h0
  have hb : env.blockKind = .function := by unfold PySem.Env.blockKind; rw [hk]; rfl
  unfold swappedStores
  simp only [pure_bind]
  split
  · rename_i q
    exfalso
    rw [k6, hb] at q
    have : (vs.length != ts.length) = false := by rw [bne, k4]; rfl
    rw [this] at q
    cases q
  · split
    · rename_i q
      exact absurd ((any_star k5).symm.trans q) (by decide)
    · split
      · rename_i q
        exfalso
        have q : ((namesOf env.scope (lineOf ts) ts).length != ts.length || (namesOf env.scope (lineOf ts) ts).eraseDups.length != (namesOf env.scope (lineOf ts) ts).length) = true := q
        rw [e0, bne, h8, bne, h6] at q
        cases q
      · split
        · rename_i q
          rw [q] at h4
          cases h4
        · split
          · rename_i q
            rw [q] at h2
            cases h2
          · show pure (some (namesOf env.scope (lineOf ts) ts)) = _
            rw [e0]

/-! ### statements -/
def isBI (I : Inf) (i : Nat) (x : Str) (b : BS) : Bool := atB I i x && stoB b x
def suB (I : Inf) (sc : BS) : SU → List Stmt → Bool
  | .ret (.str s), [.Return (some (.Constant (.str t) _ _)) _] => decide (s = t)
  | .ret .non, [.Return (some (.Constant .none _ _)) _] => true
  | .ret (.bl b), [.Return (some (.Constant (.bool c) _ _)) _] => decide (b = c)
  | .asg i .non, [.Assign [.Name x _] (.Constant .none _ _) _] => atB I i x && stoB sc x
  | _, _ => false
/-- name = [.. for ..], made by the function's own block -/
def chkLc (I : Inf) (sc : BS) (i : Nat) (e : CE) (x : Str) (px : Pos) (v : Expr) (line : Nat) : Bool := match e, v with
  | .comp g it co c own, .ListComp elt [⟨tg, iter, ifs, 0⟩] scope p => chk I false sc (.comp g it co c own) (.e (.ListComp elt [⟨tg, iter, ifs, 0⟩] scope p)) && atB I i x && lclB sc.sc x && (px.line == p.line) && !(scope.names.any fun (n, k) => n == x && (k == .local || k == .cell))
  | .adopt (.comp g it co c own), .ListComp elt [⟨tg, iter, ifs, 0⟩] scope p => chk I false sc (.comp g it co c own) (.e (.ListComp elt [⟨tg, iter, ifs, 0⟩] scope p)) && atB I i x && lclB sc.sc x && (px.line == p.line) && !(scope.names.any fun (n, k) => n == x && (k == .local || k == .cell))
  | _, _ => false
def isNm : Expr → Bool
  | .Name .. => true
  | _ => false
mutual
def chkS (I : Inf) (sc : BS) : CS → Stmt → Bool
  | .asg t e, s => match s with
    | .Assign [.Name x px] v p => (match t with
      | .nm i => (isBI I i x sc && (notCo v || (match v with | .ListComp .. => cellB sc.sc x | _ => false)) && chk I false sc e (.e v)) || chkLc I sc i e x px v p.line
      | _ => false)
    | .Assign [tg] v _ => !isNm tg && swNone sc.sc tg v && chkT I sc t tg && chk I false sc e (.e v) && (match tg with | .Starred .. => false | _ => true)
    | _ => false
  | .par i j a b, s => match s with
    | .Assign [.Tuple [.Name x px, .Name y py] _ _] (.Tuple [ea, eb] _ _) _ => atB I i x && atB I j y && lclB sc.sc x && lclB sc.sc y && decide (i ≠ j) && swB sc.sc [.Name x px, .Name y py] [x, y] [ea, eb] && plE ea && plE eb && chk I false sc a (.e ea) && chk I false sc b (.e eb)
    | _ => false
  | .par3 i j l a b c, s => match s with
    | .Assign [.Tuple [.Name x px, .Name y py, .Name z pz] _ _] (.Tuple [ea, eb, ec] _ _) _ => atB I i x && atB I j y && atB I l z && lclB sc.sc x && lclB sc.sc y && lclB sc.sc z && decide (i ≠ j ∧ i ≠ l ∧ j ≠ l) && swB sc.sc [.Name x px, .Name y py, .Name z pz] [x, y, z] [ea, eb, ec] && plE ea && plE eb && plE ec && chk I false sc a (.e ea) && chk I false sc b (.e eb) && chk I false sc c (.e ec)
    | _ => false
  | .aug i op e, s => match s with
    | .AugAssign (.Name x _) o v _ => decide (op = o) && isBI I i x sc && chk I false sc e (.e v)
    | _ => false
  | .augS a i op e, s => match s with
    | .AugAssign (.Subscript ea ei _) o v _ => decide (op = o) && plE ei && chk I false sc a (.e ea) && chk I false sc i (.e ei) && chk I false sc e (.e v)
    | _ => false
  | .ret e, s => match s with
    | .Return (some v) _ => chk I false sc e (.e v)
    | _ => false
  | .retN, s => match s with
    | .Return none _ => true
    | _ => false
  | .drop e, s => match s with
    | .Expr v _ => notCo v && chk I false sc e (.e v)
    | _ => false
  | .ite t a b, s => match s with
    | .If c p q _ => chk I true sc t (.e c) && chkSs I sc a p && chkSs I sc b q
    | _ => false
  | .frs t it b, s => match s with
    | .For tg iter body [] _ => chkT I sc t tg && plE iter && chkI I sc it tg iter && chkSs I sc b body
    | _ => false
  | .whl t b, s => match s with
    | .While c body [] _ => chk I true sc t (.e c) && chkSs I sc b body
    | _ => false
  | .brk, s => match s with
    | .Break _ => true
    | _ => false
  | .cnt, s => match s with
    | .Continue _ => true
    | _ => false
  | .pass, s => match s with
    | .Pass _ => true
    | _ => false
  | .rai c o, s => match s with
    | .Raise (some (.Call (.Name x _) es [] _)) none _ => decide (x = c) && glB sc.sc x && dbgB x && (match o, es with
      | .no, [] => I.ex.contains x
      | .so a, [e] => I.pl && decide (x = "NoPlace") && plE e && chk I false sc a (.e e)
      | _, _ => false)
    | _ => false
  | .try1 b h, s => match s with
    | .Try body [.ExceptHandler (some (.Name cn _)) none (b0 :: suite) _] [] [] _ => decide (h.cls = [cn]) && h.as.isNone && glB sc.sc cn && dbgB cn && ecs.contains cn && I.ex.contains cn && suB I sc h.su (b0 :: suite) && chkSs I sc b body
    | .Try body [.ExceptHandler (some (.Name cn _)) (some n) [.Return (some (.Tuple [.Constant (.str sx) _ _, .Attribute (.Name n2 _) f _] _ _)) _] _] [] [] _ => decide (h.cls = [cn] ∧ cn = "NoPlace" ∧ n2 = n ∧ f = "place") && I.pl && glB sc.sc cn && dbgB n && lclB sc.sc n && (match h.as, h.su with
      | some i, .retP s g => atB I i n && decide (s = sx ∧ g = "place")
      | _, _ => false) && chkSs I sc b body
    | _ => false
  | .try2 _ _ _, _ => false
def chkSs (I : Inf) (sc : BS) : CSs → List Stmt → Bool
  | .nil, [] => true
  | .cons c r, s :: ss => chkS I sc c s && chkSs I sc r ss
  | _, _ => false
end
end Cl

/-! Cl, part Q: the test is right, for statements. -/
namespace Cl
open PySem L2
section
variable {I : Inf} {k : Nat} {cf : CF} {X : Cx} {sc : BS} {W : WX}
theorem lc_ok {g : CT} {it : CI} {co : CO} {c : CE} {own : List Nat} {elt tg iter : Expr} {ifs : List Expr} {scope : Scope} {p px spos : Pos} {i : Nat} {x : Str} {ad : Bool} (G : GoodS I k cf X sc) (tk : Takes X W)
    (h : (chk I false sc (.comp g it co c own) (.e (.ListComp elt [⟨tg, iter, ifs, 0⟩] scope p)) && atB I i x && lclB sc.sc x && (px.line == p.line) && !(scope.names.any fun (n, k) => n == x && (k == .local || k == .cell))) = true) :
    SS cf X W (.asg (.nm i) (if ad then .adopt (.comp g it co c own) else .comp g it co c own)) (.Assign [.Name x px] (.ListComp elt [⟨tg, iter, ifs, 0⟩] scope p) spos) := by
  have G' := G.toGoodE
  have ⟨a1, a2⟩ := ands h
  have ⟨a3, a4⟩ := ands a1
  have ⟨a5, a6⟩ := ands a3
  have ⟨a7, a8⟩ := ands a5
  unfold chk at a7
  have a7 : (chkI I sc it tg iter && blkC I.N sc.sc scope (ownP I own) && chkT I (sc.inner scope) g tg && chkC I (sc.inner scope) co ifs && chk I false (sc.inner scope) c (.e elt) && plE iter && (namesT g).all own.contains) = true := a7
  have ⟨h1, h2⟩ := ands a7
  have ⟨h3, h4⟩ := ands h1
  have ⟨h5, h6⟩ := ands h3
  have ⟨h7, h8⟩ := ands h5
  have ⟨h9, h0⟩ := ands h7
  have ⟨k1, k2⟩ := ands h9
  have a2 : (scope.names.any fun (n, k) => n == x && (k == .local || k == .cell)) = false := by simpa using a2
  have z := ss_asgLc (W := W) (i := i) (y := x) (py := px) (spos := spos) (pos := p) (own := ownP I own) (ad := ad) G'.calm G'.nodup (G'.at a8) (G'.lcl a6) (sw_true (by rw [G'.scE]; exact G.kind) (G'.lcl a6) a4 a2) (chkI_ok it X sc W tg iter G' tk k1) (by rw [G'.hN, G'.scE]; exact k2)
    (fun s H C cl fp => chkT_ok g _ (sc.inner scope) tg (G'.blk s H scope C cl fp) h0) (fun s H C cl fp => chkC_ok co _ (sc.inner scope) ifs (G'.blk s H scope C cl fp) h8)
    (fun s H C cl fp => chk_ok c false _ (sc.inner scope) W0 (.e elt) (G'.blk s H scope C cl fp) takes0 h6) (by intro _; cases iter <;> first | rfl | cases h4)
    (fun i hi => by rw [ownP_snd]; exact List.contains_iff_mem.mp (List.all_eq_true.mp h2 i hi))
  rw [ownP_snd] at z
  exact z
theorem chkLc_ok {e : CE} {v : Expr} {px spos : Pos} {i : Nat} {x : Str} (G : GoodS I k cf X sc) (tk : Takes X W) (h : chkLc I sc i e x px v spos.line = true) : SS cf X W (.asg (.nm i) e) (.Assign [.Name x px] v spos) := by
  unfold chkLc at h
  split at h
  · exact lc_ok (ad := false) G tk h
  · exact lc_ok (ad := true) G tk h
  · cases h
theorem atB_lt {x : Str} {i : Nat} (h : atB I i x = true) : i < I.N.length := (List.getElem?_eq_some_iff.mp (atB_of h)).1
/-- a suite -/
theorem su_ok {h : Hd} {hk : CSs} {b0 : Stmt} {suite : List Stmt} {a : Addr} {pn : List (Addr × Obj)} (G : GoodS I k cf X sc) (ha : h.as = none) (e : suC h = some hk) (c : suB I sc h.su (b0 :: suite) = true) : SSs cf (X.suite a pn) W hk (b0 :: suite) := by
  obtain ⟨cl, as, su⟩ := h
  simp only at ha c
  subst ha
  unfold suB at c
  split at c
  · rename_i s t _ _ _ q
    obtain ⟨rfl, rfl⟩ := List.cons.inj q
    have := of_decide_eq_true c; subst this
    cases e
    exact ss_one (ss_ret sx_str)
  · rename_i q
    obtain ⟨rfl, rfl⟩ := List.cons.inj q
    cases e
    exact ss_one (ss_ret sx_non)
  · rename_i q
    obtain ⟨rfl, rfl⟩ := List.cons.inj q
    have := of_decide_eq_true c; subst this
    cases e
    exact ss_one (ss_ret sx_bl)
  · rename_i q
    obtain ⟨rfl, rfl⟩ := List.cons.inj q
    have ⟨c1, c2⟩ := ands c
    cases e
    exact ss_one (ss_asgN (X := X.suite a pn) G.toGoodE.nodup (G.toGoodE.at c1) (G.toGoodE.loc c2) (G.toGoodE.sto c2) sx_non rfl)
  · cases c
theorem suC_of {h : Hd} {l : List Stmt} (ha : h.as = none) (c : suB I sc h.su l = true) : ∃ hk, suC h = some hk := by
  obtain ⟨cl, as, su⟩ := h
  simp only at ha c
  subst ha
  unfold suB at c
  split at c
  · exact ⟨_, rfl⟩
  · exact ⟨_, rfl⟩
  · exact ⟨_, rfl⟩
  · exact ⟨_, rfl⟩
  · cases c
end
section
variable {I : Inf} {k : Nat} {cf : CF}
mutual
theorem chkS_ok : ∀ (c : CS) (X : Cx) (sc : BS) (W : WX) (s : Stmt), GoodS I k cf X sc → Takes X W → chkS I sc c s = true → SS cf X W c s
  | .asg t e, X, sc, W, s, G, tk, h => by
    unfold chkS at h
    split at h
    · rename_i x px v p
      split at h
      · rename_i i
        rcases Bool.or_eq_true_iff.mp h with h | h
        · have ⟨h1, h2⟩ := ands h
          have ⟨h3, h4⟩ := ands h1
          have ⟨h5, h6⟩ := ands h3
          refine ss_asgN G.toGoodE.nodup (G.toGoodE.at h5) (G.toGoodE.loc h6) (G.toGoodE.sto h6) (chk_ok e false X sc W _ G.toGoodE tk h2) ?_
          rcases Bool.or_eq_true_iff.mp h4 with h4 | h4
          · exact sw_notCo h4
          · split at h4
            · refine sw_false ?_
              rw [G.scE, cellB_of h4]
              decide
            · cases h4
        · exact chkLc_ok G tk h
      · cases h
    · rename_i tg v p hn
      have ⟨h1, h2⟩ := ands h
      have ⟨h3, h4⟩ := ands h1
      have ⟨h5, h6⟩ := ands h3
      have ⟨h7, h8⟩ := ands h5
      refine ss_asg (chkT_ok t X sc tg G.toGoodE h6) (chk_ok e false X sc W _ G.toGoodE tk h4) (sw_noName fun x p q => ?_) (swNone_of (by rw [G.scE]; exact h8)) ?_
      · subst q; cases h7
      · cases tg <;> first | rfl | cases h2
    · cases h
  | .par i j a b, X, sc, W, s, G, tk, h => by
    unfold chkS at h
    split at h
    · have ⟨h1, h2⟩ := ands h
      have ⟨h3, h4⟩ := ands h1
      have ⟨h5, h6⟩ := ands h3
      have ⟨h7, h8⟩ := ands h5
      have ⟨h9, h0⟩ := ands h7
      have ⟨k1, k2⟩ := ands h9
      have ⟨k3, k4⟩ := ands k1
      have ⟨k5, k6⟩ := ands k3
      have ⟨k7, k8⟩ := ands k5
      exact ss_par G.calm G.toGoodE.nodup (G.toGoodE.at k7) (G.toGoodE.at k8) (of_decide_eq_true k2) (G.toGoodE.lcl k6) (G.toGoodE.lcl k4) h8 h6 (chk_ok a false X sc W _ G.toGoodE tk h4) (chk_ok b false X sc W _ G.toGoodE tk h2)
        (swB_of (by rw [G.scE]; exact G.kind) (by rw [G.scE]; exact h0))
    · cases h
  | .par3 i j l a b c, X, sc, W, s, G, tk, h => by
    unfold chkS at h
    split at h
    · have ⟨h1, h2⟩ := ands h
      have ⟨h3, h4⟩ := ands h1
      have ⟨h5, h6⟩ := ands h3
      have ⟨h7, h8⟩ := ands h5
      have ⟨h9, h0⟩ := ands h7
      have ⟨k1, k2⟩ := ands h9
      have ⟨k3, k4⟩ := ands k1
      have ⟨k5, k6⟩ := ands k3
      have ⟨k7, k8⟩ := ands k5
      have ⟨k9, k0⟩ := ands k7
      have ⟨l1, l2⟩ := ands k9
      have ⟨l3, l4⟩ := ands l1
      have ⟨l5, l6⟩ := ands l3
      have d := of_decide_eq_true k6
      exact ss_par3 G.calm G.toGoodE.nodup (G.toGoodE.at l5) (G.toGoodE.at l6) (G.toGoodE.at l4) d.1 d.2.1 d.2.2 (G.toGoodE.lcl l2) (G.toGoodE.lcl k0) (G.toGoodE.lcl k8) k2 h0 h8 (chk_ok a false X sc W _ G.toGoodE tk h6) (chk_ok b false X sc W _ G.toGoodE tk h4) (chk_ok c false X sc W _ G.toGoodE tk h2)
        (swB_of (by rw [G.scE]; exact G.kind) (by rw [G.scE]; exact k4))
    · cases h
  | .aug i op e, X, sc, W, s, G, tk, h => by
    unfold chkS at h
    split at h
    · have ⟨h1, h2⟩ := ands h
      have ⟨h3, h4⟩ := ands h1
      have ⟨h5, h6⟩ := ands h4
      have := of_decide_eq_true h3; subst this
      exact ss_aug G.toGoodE.nodup (G.toGoodE.at h5) (G.toGoodE.loc h6) (G.toGoodE.sto h6) (chk_ok e false X sc W _ G.toGoodE tk h2)
    · cases h
  | .augS a i op e, X, sc, W, s, G, tk, h => by
    unfold chkS at h
    split at h
    · have ⟨h1, h2⟩ := ands h
      have ⟨h3, h4⟩ := ands h1
      have ⟨h5, h6⟩ := ands h3
      have ⟨h7, h8⟩ := ands h5
      have := of_decide_eq_true h7; subst this
      exact ss_augS G.toGoodE.hu1 h8 (chk_ok a false X sc W _ G.toGoodE tk h6) (chk_ok i false X sc W _ G.toGoodE tk h4) (chk_ok e false X sc W _ G.toGoodE tk h2)
    · cases h
  | .ret e, X, sc, W, s, G, tk, h => by
    unfold chkS at h
    split at h
    · exact ss_ret (chk_ok e false X sc W _ G.toGoodE tk h)
    · cases h
  | .retN, X, sc, W, s, G, tk, h => by
    unfold chkS at h
    split at h
    · exact ss_retN
    · cases h
  | .drop e, X, sc, W, s, G, tk, h => by
    unfold chkS at h
    split at h
    · have ⟨h1, h2⟩ := ands h
      exact ss_drop (chk_ok e false X sc W _ G.toGoodE tk h2) (sw_notCo h1)
    · cases h
  | .ite t a b, X, sc, W, s, G, tk, h => by
    unfold chkS at h
    split at h
    · have ⟨h1, h2⟩ := ands h
      have ⟨h3, h4⟩ := ands h1
      exact ss_ite (chk_ok t true X sc W _ G.toGoodE tk h3) (chkSs_ok a X sc W _ G tk h4) (chkSs_ok b X sc W _ G tk h2)
    · cases h
  | .frs t it b, X, sc, W, s, G, tk, h => by
    unfold chkS at h
    split at h
    · rename_i tg iter body p
      have ⟨h1, h2⟩ := ands h
      have ⟨h3, h4⟩ := ands h1
      have ⟨h5, h6⟩ := ands h3
      exact ss_frs G.own G.calm (chkI_ok it X sc W _ _ G.toGoodE tk h4) (chkT_ok t X sc _ G.toGoodE h5) (chkSs_ok b X sc W _ G tk h2) (by intro _; cases iter <;> first | rfl | cases h6)
    · cases h
  | .whl t b, X, sc, W, s, G, tk, h => by
    unfold chkS at h
    split at h
    · have ⟨h1, h2⟩ := ands h
      exact ss_whl G.own (chk_ok t true X sc W _ G.toGoodE tk h1) (chkSs_ok b X sc W _ G tk h2)
    · cases h
  | .brk, X, sc, W, s, G, tk, h => by
    unfold chkS at h
    split at h
    · exact ss_brk
    · cases h
  | .cnt, X, sc, W, s, G, tk, h => by
    unfold chkS at h
    split at h
    · exact ss_cnt
    · cases h
  | .pass, X, sc, W, s, G, tk, h => by
    unfold chkS at h
    split at h
    · exact ss_pass
    · cases h
  | .rai c o, X, sc, W, s, G, tk, h => by
    unfold chkS at h
    split at h
    · have ⟨h1, h2⟩ := ands h
      have ⟨h3, h4⟩ := ands h1
      have ⟨h5, h6⟩ := ands h3
      have := of_decide_eq_true h5; subst this
      split at h2
      · exact ss_rai0 G.calm tk (G.ex _ (List.contains_iff_mem.mp h2)) (G.toGoodE.gl h6) (dbgB_of h4).1
      · rename_i a e
        have ⟨h7, h8⟩ := ands h2
        have ⟨h9, h0⟩ := ands h7
        have ⟨k1, k2⟩ := ands h9
        have := of_decide_eq_true k2; subst this
        exact ss_raiP G.calm tk G.room (G.pl k1) (G.toGoodE.gl h6) h0 (chk_ok a false X sc W _ G.toGoodE tk h8)
      · cases h2
    · cases h
  | .try1 b h0, X, sc, W, s, G, tk, h => by
    unfold chkS at h
    split at h
    · rename_i body cn np b0 suite p1 p2
      have ⟨h1, h2⟩ := ands h
      have ⟨h3, h4⟩ := ands h1
      have ⟨h5, h6⟩ := ands h3
      have ⟨h7, h8⟩ := ands h5
      have ⟨h9, h10⟩ := ands h7
      have ⟨k1, k2⟩ := ands h9
      have ⟨k3, k4⟩ := ands k1
      have hc := of_decide_eq_true k3
      have ha : h0.as = none := Option.isNone_iff_eq_none.mp k4
      obtain ⟨hk, hsu⟩ := suC_of ha h4
      obtain ⟨C, bmB, B, ni, ii, F, q, gC, kC, r, ap⟩ := (G.ex _ (List.contains_iff_mem.mp h6)).ex
      exact ss_try1 G.stk G.fr tk gC (G.toGoodE.gl k2) (dbgB_of h10).1 hc (List.contains_iff_mem.mp h8) hsu
        (fun W' pn xe tk' ow => chkSs_ok b (X.tr pn xe) sc W' body (G.tr ow) tk' h2) (fun a pn => su_ok G ha hsu h4)
    · rename_i body cn np n sx k1' p1 n2 p2 f p3 k2' p4 p5 p6 p7
      have ⟨h1, h2⟩ := ands h
      have ⟨h3, h4⟩ := ands h1
      have ⟨h5, h6⟩ := ands h3
      have ⟨h7, h8⟩ := ands h5
      have ⟨h9, h10⟩ := ands h7
      have ⟨k1, k2⟩ := ands h9
      obtain ⟨hc, rfl, rfl, rfl⟩ := of_decide_eq_true k1
      obtain ⟨cl, as, su⟩ := h0
      simp only at hc h4
      subst hc
      split at h4
      · have ⟨k3, k4⟩ := ands h4
        obtain ⟨rfl, rfl⟩ := of_decide_eq_true k4
        exact ss_tryP G.stk G.fr tk (G.pl k2) (G.toGoodE.gl h10) G.toGoodE.nodup (G.toGoodE.at k3) (G.toGoodE.lcl h6) (dbgB_of h8).1 (dbgB_of h8).2
          (fun W' pn xe tk' ow => chkSs_ok b (X.tr pn xe) sc W' body (G.tr ow) tk' h2)
      · cases h4
    · cases h
  | .try2 _ _ _, X, sc, W, s, G, tk, h => by
    unfold chkS at h
    cases h
theorem chkSs_ok : ∀ (c : CSs) (X : Cx) (sc : BS) (W : WX) (s : List Stmt), GoodS I k cf X sc → Takes X W → chkSs I sc c s = true → SSs cf X W c s
  | .nil, X, sc, W, [], G, tk, h => ss_nil
  | .nil, X, sc, W, _ :: _, G, tk, h => by simp [chkSs] at h
  | .cons c r, X, sc, W, [], G, tk, h => by simp [chkSs] at h
  | .cons c r, X, sc, W, s :: ss, G, tk, h => by
    simp only [chkSs] at h
    have ⟨h1, h2⟩ := ands h
    exact ss_cons (chkS_ok c X sc W s G tk h1) (chkSs_ok r X sc W ss G tk h2)
end
end
end Cl

/-! Cl, part R: a def whose text is a clean program does what the clean program does. -/
namespace Cl
open PySem L2

/-! ### back to the caller's store -/
mutual
theorem Val.bel {K : PySem.W.Frag} {L M : List Addr} {H : Hp} : ∀ {d : D} {v : V}, Val K L M H v d → below M.length d = true
  | .non, _, _ => rfl
  | .bl _, _, _ => rfl
  | .int _, _, _ => rfl
  | .str _, _, _ => rfl
  | .tup ds, _, h => by cases h with | tup h hs => exact Vls.bel hs
  | .lst ds, _, h => by cases h with | lst h hs => exact Vls.bel hs
  | .rol ds, _, h => by cases h with | rol h hs => exact Vls.bel hs
  | .loc n, _, h => by cases h with | loc h => exact decide_eq_true (List.getElem?_eq_some_iff.mp h).1
theorem Vls.bel {K : PySem.W.Frag} {L M : List Addr} {H : Hp} : ∀ {ds : List D} {vs : List V}, Vls K L M H vs ds → belowL M.length ds = true
  | [], _, _ => rfl
  | d :: ds, _, h => by cases h with | cons h hs => exact Bool.and_eq_true_iff.mpr ⟨Val.bel h, Vls.bel hs⟩
end
section
variable {K : PySem.W.Frag} {L M t : List Addr} {H : Hp}
theorem notin_l {a : Addr} (h : a ∉ M ++ t) : a ∉ M := fun z => h (List.mem_append_left _ z)
mutual
theorem Val.cut : ∀ {d : D} {v : V}, Val K L (M ++ t) H v d → below M.length d = true → Val K L M H v d
  | .non, _, h, _ => by cases h; exact .non
  | .bl _, _, h, _ => by cases h; exact .bl _
  | .int _, _, h, _ => by cases h; exact .int _
  | .str _, _, h, _ => by cases h; exact .str _
  | .tup ds, _, h, b => by cases h with | tup h hs => exact .tup ⟨h.1, notin_l h.2.1, h.2.2⟩ (Vls.cut hs b)
  | .lst ds, _, h, b => by cases h with | lst h hs => exact .lst ⟨h.1, notin_l h.2.1, h.2.2⟩ (Vls.cut hs b)
  | .rol ds, _, h, b => by
    cases h with
    | rol h hs =>
      refine .rol ?_ (Vls.cut hs b)
      rcases h with ⟨h, n, l⟩ | h
      · exact .inl ⟨h, notin_l n, l⟩
      · exact .inr h
  | .loc n, _, h, b => by
    cases h with
    | loc h =>
      have hn : n < M.length := of_decide_eq_true b
      rw [List.getElem?_append_left hn] at h
      exact .loc h
theorem Vls.cut : ∀ {ds : List D} {vs : List V}, Vls K L (M ++ t) H vs ds → belowL M.length ds = true → Vls K L M H vs ds
  | [], _, h, _ => by cases h; exact .nil
  | d :: ds, _, h, b => by
    cases h with
    | cons h hs =>
      have b := Bool.and_eq_true_iff.mp b
      exact .cons (Val.cut h b.1) (Vls.cut hs b.2)
end
theorem all_below {κ : Type} : ∀ {ks : List (κ × V)} {kvs : List (κ × D)}, KvR K L (M ++ t) H ks kvs → (kvs.all fun p => Cl.below M.length p.2) = true → KvR K L M H ks kvs := by
  intro ks kvs r
  unfold KvR at r ⊢
  induction r with
  | nil => intro _; exact .nil
  | cons h _ ih =>
    intro b
    rw [List.all_cons] at b
    have b := Bool.and_eq_true_iff.mp b
    exact .cons ⟨h.1, h.2.cut b.1⟩ (ih b.2)
theorem ObjR.cut {a : Addr} {o : O} (h : ObjR K L (M ++ t) H a o) (b : o.below M.length = true) : ObjR K L M H a o := by
  cases o with
  | lst ds => obtain ⟨vs, e, q⟩ := h; exact ⟨vs, e, q.cut b⟩
  | dK kvs => obtain ⟨vs, e, q⟩ := h; exact ⟨vs, e, all_below q b⟩
  | dT kvs => obtain ⟨vs, e, q⟩ := h; exact ⟨vs, e, all_below q b⟩
theorem kv_below {κ : Type} : ∀ {ks : List (κ × V)} {kvs : List (κ × D)}, KvR K L M H ks kvs → (kvs.all fun p => Cl.below M.length p.2) = true := by
  intro ks kvs r
  unfold KvR at r
  induction r with
  | nil => rfl
  | cons h _ ih => rw [List.all_cons]; exact Bool.and_eq_true_iff.mpr ⟨h.2.bel, ih⟩
theorem ObjR.bel {a : Addr} {o : O} (h : ObjR K L M H a o) : o.below M.length = true := by
  cases o with
  | lst ds => obtain ⟨vs, e, q⟩ := h; exact q.bel
  | dK kvs => obtain ⟨vs, e, q⟩ := h; exact kv_below q
  | dT kvs => obtain ⟨vs, e, q⟩ := h; exact kv_below q
/-- what was made within stays for ever -/
theorem frz_ok {n : Nat} {st1 : Store} (r : Rel K L (M ++ t) st1 H) (hn : n = M.length) : ∀ k : Nat, ∀ (m : Nat) (e : D) (a : Addr), frzAt k st1 n m = some e → (M ++ t)[m]? = some a → Val K L M H (.ref a) e := by
  have step : ∀ (f : Nat → Option D), (∀ (m : Nat) (e : D) (a : Addr), f m = some e → (M ++ t)[m]? = some a → Val K L M H (.ref a) e) →
      (∀ (d : D) (v : V) (e : D), frzD f d = some e → Val K L (M ++ t) H v d → Val K L M H v e) ∧ (∀ (ds : List D) (vs : List V) (es : List D), frzL f ds = some es → Vls K L (M ++ t) H vs ds → Vls K L M H vs es) := by
    intro f hf
    have both : ∀ N : Nat, (∀ (d : D) (v : V) (e : D), sizeOf d < N → frzD f d = some e → Val K L (M ++ t) H v d → Val K L M H v e) ∧ (∀ (ds : List D) (vs : List V) (es : List D), sizeOf ds < N → frzL f ds = some es → Vls K L (M ++ t) H vs ds → Vls K L M H vs es) := by
      intro N
      induction N with
      | zero => exact ⟨fun _ _ _ h => absurd h (Nat.not_lt_zero _), fun _ _ _ h => absurd h (Nat.not_lt_zero _)⟩
      | succ N ih =>
        refine ⟨fun d v e hs hd hv => ?_, fun ds vs es hs hd hv => ?_⟩
        · cases d with
          | non => cases hd; cases hv; exact .non
          | bl b => cases hd; cases hv; exact .bl _
          | int b => cases hd; cases hv; exact .int _
          | str b => cases hd; cases hv; exact .str _
          | tup xs =>
            simp only [frzD] at hd
            split at hd
            · rename_i ys hy
              cases hd
              cases hv with
              | tup h q => exact .tup ⟨h.1, notin_l h.2.1, h.2.2⟩ (ih.2 xs _ ys (by simp at hs; omega) hy q)
            · cases hd
          | lst xs =>
            simp only [frzD] at hd
            split at hd
            · rename_i ys hy
              cases hd
              cases hv with
              | lst h q => exact .lst ⟨h.1, notin_l h.2.1, h.2.2⟩ (ih.2 xs _ ys (by simp at hs; omega) hy q)
            · cases hd
          | rol xs =>
            simp only [frzD] at hd
            split at hd
            · rename_i ys hy
              cases hd
              cases hv with
              | rol h q =>
                refine .rol ?_ (ih.2 xs _ ys (by simp at hs; omega) hy q)
                rcases h with ⟨h, n, l⟩ | h
                · exact .inl ⟨h, notin_l n, l⟩
                · exact .inr h
            · cases hd
          | loc m =>
            cases hv with
            | loc h => exact hf m e _ hd h
        · cases ds with
          | nil => cases hd; cases hv; exact .nil
          | cons x xs =>
            simp only [frzL] at hd
            split at hd
            · rename_i y ys hy hys
              cases hd
              cases hv with
              | cons h q => exact .cons (ih.1 x _ y (by simp at hs; omega) hy h) (ih.2 xs _ ys (by simp at hs; omega) hys q)
            · cases hd
    exact ⟨fun d v e => (both (sizeOf d + 1)).1 d v e (Nat.lt_succ_self _), fun d v e => (both (sizeOf d + 1)).2 d v e (Nat.lt_succ_self _)⟩
  intro k
  induction k with
  | zero => intro m e a h; cases h
  | succ k ih =>
    intro m e a h ha
    unfold frzAt at h
    split at h
    · rename_i hm
      cases h
      rw [hn] at hm
      rw [List.getElem?_append_left hm] at ha
      exact .loc ha
    · rename_i hm
      split at h
      · rename_i xs hx
        split at h
        · rename_i ys hy
          cases h
          obtain ⟨vs, e1, q⟩ := r.obj m a _ ha hx
          refine .lst ⟨e1, fun z => ?_, fun z => ?_⟩ ((step _ ih).2 xs vs ys hy q)
          · -- the place is not the caller's
            obtain ⟨i, hi, ei⟩ := List.mem_iff_getElem.mp z
            have h1 : (M ++ t)[i]? = some a := by rw [List.getElem?_append_left hi, List.getElem?_eq_getElem hi, ei]
            obtain ⟨z1, y1⟩ := List.getElem?_eq_some_iff.mp h1
            obtain ⟨z2, y2⟩ := List.getElem?_eq_some_iff.mp ha
            have := (List.getElem_inj r.nd).mp (y1.trans y2.symm)
            omega
          · exact (r.hid a z).1 (List.mem_of_getElem? ha)
        · cases h
      · cases h
theorem frzD_ok {n : Nat} {st1 : Store} (r : Rel K L (M ++ t) st1 H) (hn : n = M.length) {d e : D} {v : V} (h : frzD (frzAt 8 st1 n) d = some e) (q : Val K L (M ++ t) H v d) : Val K L M H v e := by
  -- as a list of one, whose place is new: reuse the step through a tuple
  have key : ∀ N : Nat, (∀ (d : D) (v : V) (e : D), sizeOf d < N → frzD (frzAt 8 st1 n) d = some e → Val K L (M ++ t) H v d → Val K L M H v e) ∧ (∀ (ds : List D) (vs : List V) (es : List D), sizeOf ds < N → frzL (frzAt 8 st1 n) ds = some es → Vls K L (M ++ t) H vs ds → Vls K L M H vs es) := by
    intro N
    induction N with
    | zero => exact ⟨fun _ _ _ h => absurd h (Nat.not_lt_zero _), fun _ _ _ h => absurd h (Nat.not_lt_zero _)⟩
    | succ N ih =>
      refine ⟨fun d v e hs hd hv => ?_, fun ds vs es hs hd hv => ?_⟩
      · cases d with
        | non => cases hd; cases hv; exact .non
        | bl b => cases hd; cases hv; exact .bl _
        | int b => cases hd; cases hv; exact .int _
        | str b => cases hd; cases hv; exact .str _
        | tup xs =>
          simp only [frzD] at hd
          split at hd
          · rename_i ys hy
            cases hd
            cases hv with
            | tup h q => exact .tup ⟨h.1, notin_l h.2.1, h.2.2⟩ (ih.2 xs _ ys (by simp at hs; omega) hy q)
          · cases hd
        | lst xs =>
          simp only [frzD] at hd
          split at hd
          · rename_i ys hy
            cases hd
            cases hv with
            | lst h q => exact .lst ⟨h.1, notin_l h.2.1, h.2.2⟩ (ih.2 xs _ ys (by simp at hs; omega) hy q)
          · cases hd
        | rol xs =>
          simp only [frzD] at hd
          split at hd
          · rename_i ys hy
            cases hd
            cases hv with
            | rol h q =>
              refine .rol ?_ (ih.2 xs _ ys (by simp at hs; omega) hy q)
              rcases h with ⟨h, n, l⟩ | h
              · exact .inl ⟨h, notin_l n, l⟩
              · exact .inr h
          · cases hd
        | loc m =>
          cases hv with
          | loc h => exact frz_ok r hn 8 m e _ hd h
      · cases ds with
        | nil => cases hd; cases hv; exact .nil
        | cons x xs =>
          simp only [frzL] at hd
          split at hd
          · rename_i y ys hy hys
            cases hd
            cases hv with
            | cons h q => exact .cons (ih.1 x _ y (by simp at hs; omega) hy h) (ih.2 xs _ ys (by simp at hs; omega) hys q)
          · cases hd
  exact (key (sizeOf d + 1)).1 d v e (Nat.lt_succ_self _) h q
theorem okPre_get {n : Nat} : ∀ {st st1 : Store} {i : Nat} {o o1 : O}, okPre n st st1 = true → st[i]? = some o → st1[i]? = some o1 → O.beq o o1 = true ∨ o1.below n = true
  | [], _, i, _, _, _, h, _ => by simp at h
  | _ :: _, [], _, _, _, h, _, _ => by simp [okPre] at h
  | a :: st, b :: st1, 0, o, o1, h, h1, h2 => by
    simp at h1 h2
    subst h1 h2
    exact Bool.or_eq_true_iff.mp (Bool.and_eq_true_iff.mp h).1
  | a :: st, b :: st1, i + 1, o, o1, h, h1, h2 => okPre_get (i := i) (Bool.and_eq_true_iff.mp h).2 (by simpa using h1) (by simpa using h2)
theorem kv_eq {κ : Type} : ∀ {a b : List (κ × D)}, a.map (·.1) = b.map (·.1) → Ds.beq (a.map (·.2)) (b.map (·.2)) = true → a = b
  | [], [], _, _ => rfl
  | [], _ :: _, h, _ => by simp at h
  | _ :: _, [], h, _ => by simp at h
  | (k, d) :: a, (k', d') :: b, h, h2 => by
    simp only [List.map_cons, List.cons.injEq] at h
    have h2 := Bool.and_eq_true_iff.mp (show (D.beq d d' && Ds.beq (a.map (·.2)) (b.map (·.2))) = true from h2)
    rw [kv_eq h.2 h2.2, D.beq_eq _ _ h2.1]
    have : k = k' := h.1
    rw [this]
theorem O.beq_eq {a b : O} (h : O.beq a b = true) : a = b := by
  cases a <;> cases b <;> simp only [O.beq] at h <;> first | (cases h; done) | skip
  · rw [Ds.beq_eq _ _ h]
  · have h := Bool.and_eq_true_iff.mp h
    rw [kv_eq (of_decide_eq_true h.1) h.2]
  · have h := Bool.and_eq_true_iff.mp h
    rw [kv_eq (of_decide_eq_true h.1) h.2]
/-- the caller's store, behind the call -/
theorem pre_ok {M t : List Addr} {H H1 : Hp} {st st1 : Store} {K : PySem.W.Frag} {L : List Addr} (r : Rel K L M st H) (r1 : Rel K L (M ++ t) st1 H1) (h : okPre st.length st st1 = true) : Rel K L M (st1.take st.length) H1 := by
  have hl := r.len
  have hl1 := r1.len
  rw [List.length_append] at hl1
  refine ⟨?_, (List.nodup_append.mp r1.nd).1, fun i a o ha ho => ?_, fun a ha => ⟨notin_l (r1.hid a ha).1, (r1.hid a ha).2⟩⟩
  · rw [List.length_take]; omega
  · have hi := (List.getElem?_eq_some_iff.mp ha).1
    rw [List.getElem?_take] at ho
    split at ho
    · have q1 := r1.obj i a o (by rw [List.getElem?_append_left hi]; exact ha) ho
      refine q1.cut ?_
      obtain ⟨o0, h0, q0⟩ := r.at (n := i) ha
      rcases okPre_get h h0 ho with z | z
      · rw [← O.beq_eq z]; exact q0.bel
      · rw [hl]; exact z
    · cases ho
end
/-! ### the end of a def -/
section
variable {K : PySem.W.Frag} {mg : Str → Option Value} {L M M1 : List Addr} {H H1 : Hp} {st st1 st' : Store} {Q : VK} {E : XK} {frz : Bool}
/-- what spF's two ends are -/
def EndF (K : PySem.W.Frag) (mg : Str → Option Value) (L : List Addr) (Q : VK) (E : XK) (M : List Addr) (H : Hp) (st' : Store) : R D → Prop
  | .ok d => OkD K L Q M H st' d
  | .ex x => ∀ M' H' cls dd, Ext M H M' H' → Rel K L M' st' H' → XVal K mg L M' H' cls dd x → E cls dd H'
theorem fin_ok {d : D} {r : R D} {v : V} (hR : Rel K L M st H) (e : Df.fin frz st st1 d = some (r, st')) (q : EndF K mg L Q E M H st' r) (ex : Ext M H M1 H1) (R1 : Rel K L M1 st1 H1) (hv : Val K L M1 H1 v d) : Q v H1 := by
  unfold Df.fin at e
  cases frz with
  | false =>
    cases e
    exact q M1 H1 v ex R1 hv
  | true =>
    simp only [if_true] at e
    split at e
    · rename_i d' hd
      split at e
      · rename_i hp
        cases e
        obtain ⟨t, rfl⟩ := ex.pre
        exact q M H1 v ⟨⟨[], by simp⟩, fun b o h n => ⟨(ex.keep b o h n).1, n⟩⟩ (pre_ok hR R1 hp) (frzD_ok R1 hR.len.symm hd hv)
      · cases e
    · cases e
theorem finX_ok {x : XD} {r : R D} {cls : Value} {dd : Option Addr} (hR : Rel K L M st H) (e : Df.finX frz st st1 x = some (r, st')) (q : EndF K mg L Q E M H st' r) (ex : Ext M H M1 H1) (R1 : Rel K L M1 st1 H1) (hv : XVal K mg L M1 H1 cls dd x) : E cls dd H1 := by
  unfold Df.finX at e
  cases frz with
  | false =>
    cases e
    exact q M1 H1 cls dd ex R1 hv
  | true =>
    simp only [if_true] at e
    obtain ⟨t, rfl⟩ := ex.pre
    have ex' : Ext M H M H1 := ⟨⟨[], by simp⟩, fun b o h n => ⟨(ex.keep b o h n).1, n⟩⟩
    obtain ⟨C, h1, h2, h0, h3⟩ := hv
    split at e
    · rename_i hx
      split at e
      · rename_i hp
        cases e
        exact q M H1 cls dd ex' (pre_ok hR R1 hp) ⟨C, h1, h2, h0, fun v hv => by rw [hx] at hv; cases hv⟩
      · cases e
    · rename_i v hx
      split at e
      · rename_i d' hd
        split at e
        · rename_i hp
          cases e
          refine q M H1 cls dd ex' (pre_ok hR R1 hp) ⟨C, h1, h2, h0, fun v' hv => ?_⟩
          cases hv
          obtain ⟨a, w, k1, k2, k3, k4, k5⟩ := h3 v hx
          exact ⟨a, w, k1, k2, notin_l k3, k4, frzD_ok R1 hR.len.symm hd k5⟩
        · cases e
      · cases e
end
/-! ### a table of defs -/
structure Ent where
  df : Df
  st : Stmt
def nodupB : List Str → Bool
  | [] => true
  | x :: xs => !(xs.contains x) && nodupB xs
theorem nodupB_of : ∀ {l : List Str}, nodupB l = true → l.Nodup
  | [], _ => .nil
  | x :: xs, h => by
    have ⟨h1, h2⟩ := ands h
    refine List.nodup_cons.mpr ⟨fun z => ?_, nodupB_of h2⟩
    rw [List.contains_iff_mem.mpr z] at h1
    cases h1
/-- a def's text: its scope, its body -/
def entB (fs ex : List Str) (pl : Bool) (e : Ent) : Bool :=
  (match (defScope e.st).kind with | .function => true | _ => false) && !(defScope e.st).isCoroutine && !(defScope e.st).isGenerator && nodupB e.df.N && decide (e.df.N.take e.df.ps.length = e.df.ps) && (e.df.ps.all fun x => locB (defScope e.st) x) && ((defScope e.st).names.all fun y => match y.2 with | .free => false | _ => true)
    && chkSs ⟨e.df.N, fs, ex, pl⟩ ⟨defScope e.st, none⟩ e.df.body (defBody e.st)
structure TabOk (K : PySem.W.Frag) (mg : Str → Option Value) (T : List Ent) (ex : List Str) (pl : Bool) : Prop where
  bt : ∀ b ∈ btn, mg b = none
  ents : ∀ e ∈ T, ∃ (a : Addr) (fd : FuncData), mg e.df.name = some (.ref a) ∧ L2.Fun K e.df.name e.df.name e.st a fd ∧ Binds K fd e.df.ps []
  nd : nodupB (T.map (·.df.name)) = true
  txt : T.all (entB (T.map (·.df.name)) ex pl) = true
  ex : ∀ c ∈ ex, ∀ X : Cx, X.K = K → X.mg = mg → ExIn X c
  pl : pl = true → ∀ X : Cx, X.K = K → X.mg = mg → PlIn X
def dfs (T : List Ent) : List Df := T.map (·.df)
theorem find_ent : ∀ {T : List Ent} {e : Ent}, nodupB (T.map (·.df.name)) = true → e ∈ T → (dfs T).find? (fun (d : Df) => d.name == e.df.name) = some e.df
  | [], _, _, h => by cases h
  | x :: T, e, hn, h => by
    have hn : (!((T.map (·.df.name)).contains x.df.name) && nodupB (T.map (·.df.name))) = true := hn
    have ⟨h1, h2⟩ := ands hn
    show ((x.df :: dfs T).find? fun (d : Df) => d.name == e.df.name) = some e.df
    rcases List.mem_cons.mp h with z | z
    · subst z
      rw [List.find?_cons, beq_self_eq_true]
    · have ne : (x.df.name == e.df.name) = false := by
        refine beq_eq_false_iff_ne.mpr fun q => ?_
        have : (T.map (·.df.name)).contains x.df.name = true := List.contains_iff_mem.mpr (by rw [q]; exact List.mem_map.mpr ⟨e, z, rfl⟩)
        rw [this] at h1
        cases h1
      rw [List.find?_cons, ne]
      exact find_ent h2 z
section
variable {P : Program} {w : World} {K : PySem.W.Frag} {mg : Str → Option Value} {base : Heap} {T : List Ent} {ex : List Str} {pl : Bool}
theorem vls_start {L M : List Addr} {H : Hp} : ∀ {ds : List D} {vs : List V}, Vls K L M H vs ds → ∀ (i : Nat) (d : D), (ds.map some)[i]? = some (some d) → ∃ v : V, (vs.map some)[i]? = some (some v) ∧ Val K L M H v d := by
  intro ds vs q i d h
  rw [List.getElem?_map] at h
  obtain ⟨d', hd, hd2⟩ := Option.map_eq_some_iff.mp h
  cases hd2
  obtain ⟨v, h1, h2⟩ := q.get hd
  exact ⟨v, by rw [List.getElem?_map, h1]; rfl, h2⟩
theorem relE_start {L M : List Addr} {H : Hp} {N : List Str} {ds : List D} {vs : List V} (q : Vls K L M H vs ds) : RelE K L M H (L2.start N vs) (startE N ds) := by
  have hl := q.length
  refine ⟨by unfold L2.start startE; simp [hl], fun i d h => ?_⟩
  unfold startE at h
  unfold L2.start
  by_cases hi : i < ds.length
  · rw [List.getElem?_append_left (by simpa using hi)] at h
    rw [List.getElem?_append_left (by simpa [hl] using hi)]
    exact vls_start q i d h
  · rw [List.getElem?_append_right (by simpa using hi)] at h
    rw [List.getElem?_replicate] at h
    split at h <;> cases h
theorem fn_ok (O : TabOk K mg T ex pl) : ∀ (k : Nat) (e : Ent), e ∈ T → ∀ (a : Addr) (fd : FuncData), L2.Fun K e.df.name e.df.name e.st a fd → FnOk P w K mg base (L2.CX P w) k a fd e.df.ps (spF K mg e.df.ps.length (calls (dfs T) k e.df.name)) := by
  intro k
  induction k with
  | zero =>
    intro e he a fd F
    refine ⟨fun vs H Q E h => ?_, fun A outer s H args us vs Q E hr h0 hb hv h => ?_⟩
    · obtain ⟨L, M, st, ds, _, _, _, r, st', e1, _⟩ := h; cases e1
    · obtain ⟨L, M, st, ds, _, _, _, r, st', e1, _⟩ := h; cases e1
  | succ k ih =>
    intro e he a fd F
    have txt := List.all_eq_true.mp O.txt e he
    unfold entB at txt
    have ⟨t1, t2⟩ := ands txt
    have ⟨t3, t4⟩ := ands t1
    have ⟨t5, t6⟩ := ands t3
    have ⟨t7, t8⟩ := ands t5
    have ⟨t9, t10⟩ := ands t7
    have ⟨t11, t12⟩ := ands t9
    have ⟨t13, t14⟩ := ands t11
    have hk : (defScope e.st).kind = .function := by
      split at t13
      · assumption
      · cases t13
    have S : FnScope e.df.N e.df.ps (defScope e.st) := ⟨hk, by simpa using t14, by simpa using t12, nodupB_of t10, of_decide_eq_true t8, fun x hx => locB_of (List.all_eq_true.mp t6 x hx), fun y hy q => by
      have := List.all_eq_true.mp t4 y hy
      rw [q] at this
      cases this⟩
    refine F.okX S (fun vs H Q E h => ?_) (fun cdv A outer s H vs Q E hr h => ?_)
    · obtain ⟨L, M, st, ds, _, q, hl, _⟩ := h
      rw [q.length]; exact hl
    · -- the body
      have G : GoodS ⟨e.df.N, T.map (·.df.name), ex, pl⟩ k (calls (dfs T) k) (cxOf (L2.CX P w) P w K mg base e.df.N e.df.name (defScope e.st) a cdv A outer s H E) ⟨defScope e.st, none⟩ :=
        { calm := rfl, nd := nodupB_of t10, hN := rfl, scE := rfl, room := hr, bt := O.bt
          fs := fun f hf => by
            obtain ⟨e', he', rfl⟩ := List.mem_map.mp hf
            obtain ⟨a', fd', hm, F', hb⟩ := O.ents e' he'
            refine ⟨a', fd', e'.df.ps, hm, F'.kp, hb, ih e' he' a' fd' F', fun ds st r hr' => ?_⟩
            cases k with
            | zero => cases hr'
            | succ j =>
              have hr' : (match (dfs T).find? fun (d : Df) => d.name == e'.df.name with | some d => d.run (calls (dfs T) j) ds | none => fun _ => none) st = some r := hr'
              rw [find_ent O.nd he'] at hr'
              simp only [Df.run] at hr'
              split at hr'
              · assumption
              · cases hr'
          fnc := fun _ _ => rfl, kind := hk, stk := rfl, fr := rfl, own := passes_of rfl
          ex := fun c hc => O.ex c hc _ rfl rfl, pl := fun h => O.pl h _ rfl rfl }
      refine ⟨_, chkSs_ok e.df.body (cxOf (L2.CX P w) P w K mg base e.df.N e.df.name (defScope e.st) a cdv A outer s H E) ⟨defScope e.st, none⟩ (fun cls d _ H => E cls d H) (defBody e.st) G (takes_of rfl rfl rfl rfl) t2, ?_⟩
      obtain ⟨L, M, st, ds, hR, q, hl, r, st', e1, hend⟩ := h
      have hend : EndF K mg L Q E M H st' r := by cases r <;> exact hend
      have e1 : (match (dfs T).find? fun (d : Df) => d.name == e.df.name with | some d => d.run (calls (dfs T) k) ds | none => fun _ => none) st = some (r, st') := e1
      rw [find_ent O.nd he] at e1
      simp only [Df.run] at e1
      rw [if_pos hl] at e1
      have hE := relE_start (N := e.df.N) q
      split at e1
      · rename_i env1 st1 h1
        exact ⟨L, M, st, _, _, hE, hR, h1, fun M' H' σ' x r' rE => fin_ok hR e1 hend x r' .non⟩
      · rename_i v st1 h1
        exact ⟨L, M, st, _, _, hE, hR, h1, fun M' H' u x r' hv => fin_ok hR e1 hend x r' hv⟩
      · rename_i x env1 st1 h1
        exact ⟨L, M, st, _, _, hE, hR, h1, fun M' H' σ' cls dd x' r' rE hv => finX_ok hR e1 hend x' r' hv⟩
      · cases e1
end
end Cl

/-! Cl, part S: the head of a program of clean defs; a law is what its clean program says. -/
namespace Cl
open PySem L2 He
/-! ### what is looked at behind the top -/
/-- NoPlace as it stands -/
def plCls (K : PySem.W.Frag) (C : Addr) : Bool := match K.lookup C with
  | some ⟨.type t, _, .cls cd, sl⟩ => (match cd.mro, sl.toList with
    | .ref C' :: bm, [_, _, _, _, some (.builtin n), _] => decide (t = "type") && (C' == C && (n == "LookupError.__new__" && (!cd.hasDel && (cd.hasDict && (bm == PySem.NoPX.leTail)))))
    | _, _ => false)
  | _ => false
def plB (K : PySem.W.Frag) : Bool :=
  plCls K (ga K "NoPlace") && (eqO (PySem.W.findIn K (.ref (ga K "NoPlace")) "__setattr__") (some (some (.builtin "object.__setattr__"))) && (eqO (PySem.W.findIn K (.ref (ga K "NoPlace")) "__getattribute__") (some (some (.builtin "BaseException.__getattribute__"))) &&
    (eqO (PySem.W.findIn K (.ref (ga K "NoPlace")) "__getattr__") (some none) && (eqO (PySem.W.findIn K (.ref (ga K "NoPlace")) "place") (some none) && (eqO (PySem.W.findIn K (.ref (ga K "NoPlace")) "__init__") (some (some (.ref (ma K (ga K "NoPlace") "__init__")))) &&
    (decide (PySem.W.typeIn K (.ref (ma K (ga K "NoPlace") "__init__")) = some (.type "function")) && (PySem.W.keepIn K (.ref (ga K "NoPlace")) && (decide (PySem.W.subIn K (.ref (ga K "NoPlace")) (.type "BaseException") = some true) &&
    (decide (PySem.W.typeIn K (.ref (ga K "NoPlace")) = some (.type "type")) && PySem.W.hasDictIn K (ga K "NoPlace"))))))))))
theorem plCls_ok {K : PySem.W.Frag} {C : Addr} (h : plCls K C = true) : ∃ nm q N bs bm sn sub ab col dd k0 k1 k2 k3 k5, K.lookup C = some (excClassObj nm q C N bs bm true sn sub ab col dd k0 k1 k2 k3 k5 "LookupError.__new__") ∧ bm = PySem.NoPX.leTail := by
  unfold plCls at h
  split at h
  · rename_i t dd cd sl ho
    split at h
    · rename_i C' bm k0 k1 k2 k3 n k5 hm hs
      obtain ⟨h1, h⟩ := ba h
      obtain ⟨h2, h⟩ := ba h
      obtain ⟨h3, h⟩ := ba h
      obtain ⟨h4, h⟩ := ba h
      obtain ⟨h5, h6⟩ := ba h
      have := of_decide_eq_true h1; subst this
      have := beq_iff_eq.mp h2; subst this
      have := beq_iff_eq.mp h3; subst this
      have e6 := beq_iff_eq.mp h6
      obtain ⟨nm, bs, mro, ns, qn, hd, sn, sub, ab, col, del⟩ := cd
      dsimp only at hm h4 h5
      subst hm
      simp only [Bool.not_eq_true'] at h4
      subst h4 h5
      have hsl : sl = #[k0, k1, k2, k3, some (.builtin "LookupError.__new__"), k5] := by
        obtain ⟨l⟩ := sl
        simp only at hs
        rw [hs]
      subst hsl
      exact ⟨nm, qn, ns, bs, bm, sn, sub, ab, col, dd, k0, k1, k2, k3, k5, ho, e6⟩
    · cases h
  · cases h
def obsP (fa : List Fa) (fn : List FnD) (pl : Bool) (K : PySem.W.Frag) : Al × Bool := (obsE fa fn K, !pl || plB K)
def hookP (n : Nat) (fa : List Fa) (fn : List FnD) (pl : Bool) : PySem.W.Hook where
  α := Al × Bool
  obs := fun s => obsP fa fn pl (frG s.heap.get? (asG s.heap.get? n))
  val := fun _ => (valE fn, true)
  says := fun _ h => ∃ K : PySem.W.Frag, K.In h ∧ obsP fa fn pl K = (valE fn, true)
  of := fun _ _ e => ⟨_, frG_in, e⟩
  keeps := fun _ _ _ ⟨K, hK, c⟩ k => ⟨K, PySem.W.Frag.In.keeps hK k, c⟩
def obT (n : Nat) (fa : List Fa) (fn : List FnD) (pl : Bool) (s : PySem.W.SharedT) : Al × Bool := obsP fa fn pl (frG (HandSHeadRun.getT s) (asG (HandSHeadRun.getT s) n))
theorem obT_eq {n : Nat} {fa : List Fa} {fn : List FnD} {pl : Bool} (s : PySem.W.SharedT) : obT n fa fn pl s = (hookP n fa fn pl).obs s.abs := by
  have e : HandSHeadRun.getT s = s.abs.heap.get? := funext fun a => HandSHeadRun.getT_eq s a
  show obsP fa fn pl (frG (HandSHeadRun.getT s) (asG (HandSHeadRun.getT s) n)) = obsP fa fn pl (frG s.abs.heap.get? (asG s.abs.heap.get? n))
  rw [e]
/-! ### the facts of a table -/
def clsOf (ex : List Str) (pl : Bool) : List Str := (if pl then [("NoPlace" : Str)] else []) ++ ex
def faOf (T : List Ent) (ex : List Str) (pl : Bool) : List Fa :=
  (T.map fun e => Fa.glo e.df.name) ++ ((T.map fun e => Fa.keep e.df.name) ++ (btn.map Fa.free ++ ((clsOf ex pl).map Fa.glo ++ (ex.map Fa.exc ++ (((clsOf ex pl).flatMap fun x => (clsOf ex pl).map fun y => Fa.exm x y (decide (x = y))) ++ (ecs.filter fun x => !(clsOf ex pl).contains x).map Fa.free)))))
def fnDs (T : List Ent) (pl : Bool) (ini : Stmt) : List FnD := (T.map fun e => (⟨(e.df.name, none), e.df.name, e.df.name, defArgs e.st, defBody e.st, defScope e.st⟩ : FnD)) ++ (if pl then [⟨("NoPlace", some "__init__"), "__init__", "NoPlace.__init__", defArgs ini, defBody ini, defScope ini⟩] else [])
def BindE (e : Ent) : Prop := ∀ (kV doc pm : Value) (an : Option Addr) (cdv ct : Value) (us : List Value), us.length = e.df.ps.length → bindArgs (PySem.W.fnOf e.df.name e.df.name (defArgs e.st) (defBody e.st) (defScope e.st) .none kV doc pm an cdv ct) ⟨us, []⟩ = pure (e.df.ps.zip us)
/-- a class's i-th statement -/
def inCls (s : Stmt) (i : Nat) : Stmt := match s with
  | .ClassDef _ _ _ b _ _ _ _ _ _ _ => b.getD i (.Pass ⟨0, 0, 0, 0⟩)
  | _ => .Pass ⟨0, 0, 0, 0⟩
def IsIni (ini : Stmt) : Prop := ∃ p1 p2 q1 q2 q3 q4, defArgs ini = PySem.NoPX.iA p1 p2 ∧ defBody ini = PySem.NoPX.iB q1 q2 q3 q4 ∧ defScope ini = PySem.NoPX.iS
theorem veBase_eq : veBase = [.type "ValueError", .type "Exception", .type "BaseException", .type "object"] := rfl
section
variable {K : PySem.W.Frag} {mg : Str → Option Value} {h : Heap} {T : List Ent} {ex : List Str} {pl : Bool} {ini : Stmt}
theorem tab_of (X : K.In h) (G : h.Ns mainGlobals mg) (c : obsP (faOf T ex pl) (fnDs T pl ini) pl K = (valE (fnDs T pl ini), true)) (nd : nodupB (T.map (·.df.name)) = true) (txt : T.all (entB (T.map (·.df.name)) ex pl) = true)
    (hb : ∀ e ∈ T, BindE e) (hi : pl = true → IsIni ini) : TabOk K mg T ex pl := by
  have c1 : obsE (faOf T ex pl) (fnDs T pl ini) K = valE (fnDs T pl ini) := congrArg (fun z : Al × Bool => z.1) c
  have c2 : (!pl || plB K) = true := congrArg (fun z : Al × Bool => z.2) c
  have c3 := ba (show (((faOf T ex pl).all fun f => f.ok K) && (fnDs T pl ini).all fun d => (Fa.code d.at_ d.qual).ok K) = true from congrArg (fun z : Al => z.1) c1)
  have c4 : (fnDs T pl ini).map (fun d => fnObs K d.at_) = (fnDs T pl ini).map FnD.val := congrArg (fun z : Al => z.2) c1
  have fact : ∀ f ∈ faOf T ex pl, f.ok K = true := List.all_eq_true.mp c3.1
  have defn : ∀ d ∈ fnDs T pl ini, ∃ oc od osl kV doc pm an cdv ct, K.lookup (fAd K d.at_) = some ⟨oc, od, .func (PySem.W.fnOf d.name d.qual d.params d.body d.scope .none kV doc pm an cdv ct), osl⟩ ∧ PySem.W.codeIn K cdv d.qual = true :=
    fun d hd => He.fn_ok (List.map_inj_left.mp c4 d hd) (List.all_eq_true.mp c3.2 d hd)
  have g1 : ∀ e ∈ T, Fa.glo e.df.name ∈ faOf T ex pl := fun e he => List.mem_append_left _ (List.mem_map.mpr ⟨e, he, rfl⟩)
  have g2 : ∀ e ∈ T, Fa.keep e.df.name ∈ faOf T ex pl := fun e he => List.mem_append_right _ (List.mem_append_left _ (List.mem_map.mpr ⟨e, he, rfl⟩))
  have g3 : ∀ b ∈ btn, Fa.free b ∈ faOf T ex pl := fun b hb => List.mem_append_right _ (List.mem_append_right _ (List.mem_append_left _ (List.mem_map.mpr ⟨b, hb, rfl⟩)))
  have g4 : ∀ x ∈ clsOf ex pl, Fa.glo x ∈ faOf T ex pl := fun b hb => List.mem_append_right _ (List.mem_append_right _ (List.mem_append_right _ (List.mem_append_left _ (List.mem_map.mpr ⟨b, hb, rfl⟩))))
  have g5 : ∀ x ∈ ex, Fa.exc x ∈ faOf T ex pl := fun b hb => List.mem_append_right _ (List.mem_append_right _ (List.mem_append_right _ (List.mem_append_right _ (List.mem_append_left _ (List.mem_map.mpr ⟨b, hb, rfl⟩)))))
  have g6 : ∀ x ∈ clsOf ex pl, ∀ y ∈ clsOf ex pl, Fa.exm x y (decide (x = y)) ∈ faOf T ex pl := fun x hx y hy =>
    List.mem_append_right _ (List.mem_append_right _ (List.mem_append_right _ (List.mem_append_right _ (List.mem_append_right _ (List.mem_append_left _ (List.mem_flatMap.mpr ⟨x, hx, List.mem_map.mpr ⟨y, hy, rfl⟩⟩))))))
  have g7 : ∀ x ∈ ecs, (clsOf ex pl).contains x = false → Fa.free x ∈ faOf T ex pl := fun x hx hn =>
    List.mem_append_right _ (List.mem_append_right _ (List.mem_append_right _ (List.mem_append_right _ (List.mem_append_right _ (List.mem_append_right _ (List.mem_map.mpr ⟨x, List.mem_filter.mpr ⟨hx, by rw [hn]; rfl⟩, rfl⟩))))))
  have apart : ∀ x ∈ clsOf ex pl, Apart K mg x (ga K x) := fun x hx y hy C2 hC2 => by
    by_cases hc : (clsOf ex pl).contains y = true
    · have hy' := List.contains_iff_mem.mp hc
      have e1 := He.glo_ok X G (fact _ (g4 y hy'))
      rw [hC2] at e1
      cases e1
      exact He.exm_ok (fact _ (g6 x hx y hy'))
    · have e1 := He.free_ok X G (fact _ (g7 y hy (by simpa using hc)))
      rw [hC2] at e1
      cases e1
  refine ⟨fun b hb => He.free_ok X G (fact _ (g3 b hb)), fun e he => ?_, nd, txt, fun x hx X' hK hm => ?_, fun hp X' hK hm => ?_⟩
  · obtain ⟨oc, od, osl, kV, doc, pm, an, cdv, ct, lk, hcd⟩ := defn ⟨(e.df.name, none), e.df.name, e.df.name, defArgs e.st, defBody e.st, defScope e.st⟩ (List.mem_append_left _ (List.mem_map.mpr ⟨e, he, rfl⟩))
    have F := fun_mk (K := K) (x := e.df.name) (qual := e.df.name) (st := e.st) lk hcd (He.keep_ok (fact _ (g2 e he)))
    exact ⟨_, _, He.glo_ok X G (fact _ (g1 e he)), F, F.binds (hb e he)⟩
  · subst hK hm
    have hx' : x ∈ clsOf ex pl := List.mem_append_right _ hx
    obtain ⟨k1, k2, k3, k4⟩ := He.exc_ok (fact _ (g5 x hx))
    exact ⟨_, _, _, _, _, PySem.F.excBase_ValueError, k1, He.glo_ok X G (fact _ (g4 x hx')), k2, raises_own k3 k4, apart x hx'⟩
  · subst hK hm
    subst hp
    have hx' : ("NoPlace" : Str) ∈ clsOf ex true := List.mem_append_left _ (List.mem_singleton.mpr rfl)
    have c2 : plB X'.K = true := c2
    obtain ⟨a1, c2⟩ := ba c2
    obtain ⟨a2, c2⟩ := ba c2
    obtain ⟨a3, c2⟩ := ba c2
    obtain ⟨a4, c2⟩ := ba c2
    obtain ⟨a5, c2⟩ := ba c2
    obtain ⟨a6, c2⟩ := ba c2
    obtain ⟨a7, c2⟩ := ba c2
    obtain ⟨a8, c2⟩ := ba c2
    obtain ⟨a9, c2⟩ := ba c2
    obtain ⟨a10, a11⟩ := ba c2
    obtain ⟨oc, od, osl, kV, doc, pm, an, cdv, ct, lk, hcd⟩ := defn ⟨("NoPlace", some "__init__"), "__init__", "NoPlace.__init__", defArgs ini, defBody ini, defScope ini⟩ (List.mem_append_right _ (List.mem_singleton.mpr rfl))
    obtain ⟨p1, p2, q1, q2, q3, q4, i1, i2, i3⟩ := hi rfl
    have te : PySem.W.exmOne X'.K (.ref (ga X'.K "NoPlace")) (.ref (ga X'.K "NoPlace")) = some true := He.exm_ok (b := true) (fact _ (g6 "NoPlace" hx' "NoPlace" hx'))
    refine ⟨ga X'.K "NoPlace", ma X'.K (ga X'.K "NoPlace") "__init__", ⟨He.glo_ok X G (fact _ (g4 "NoPlace" hx')), plCls_ok a1, eqO_ok a2, eqO_ok a3, eqO_ok a4, eqO_ok a5, eqO_ok a6, of_decide_eq_true a7, a8, of_decide_eq_true a9, of_decide_eq_true a10, a11, te,
      ⟨oc, od, kV, doc, pm, an, cdv, ct, osl, p1, p2, q1, q2, q3, q4, ?_, hcd⟩⟩, apart "NoPlace" hx'⟩
    rw [← i1, ← i2, ← i3]
    exact lk
end
/-! ### the law -/
/-- the law's clean program says True of every script -/
def Says (T : List Ent) (k : Nat) : Prop := ∀ ns : List Int, ns.length ≤ 63 → ∀ s : D, (s = .lst (ns.map .int) ∨ s = .rol (ns.map .int)) → ∃ st', calls (dfs T) k "law" [s] [] = some (.ok (.bl true), st')
theorem law_of {K : PySem.W.Frag} {mg : Str → Option Value} {T : List Ent} {k : Nat} (hl : Says T k) {H : Hp} {a : Addr} {ns : List Int} (hn : ns.length ≤ 63) (hS : SqL K H a (ns.map V.int)) :
    spF K mg 1 (calls (dfs T) k "law") [.ref a] H (fun v _ => v = .bl true) fun _ _ _ => False := by
  have hR : Rel K [] [] [] H := ⟨rfl, List.nodup_nil, fun n a o h _ => by simp at h, fun a ha => by cases ha⟩
  have hv : ∃ s : D, (s = .lst (ns.map .int) ∨ s = .rol (ns.map .int)) ∧ Val K [] [] H (.ref a) s := by
    rcases hS with (h | ⟨o, h⟩) | h
    · exact ⟨_, .inl rfl, .lst ⟨h, by simp, by simp⟩ (.ofInts ns)⟩
    · exact ⟨_, .inr rfl, .rol (.inl ⟨⟨o, h⟩, by simp, by simp⟩) (.ofInts ns)⟩
    · exact ⟨_, .inr rfl, .rol (.inr h) (.ofInts ns)⟩
  obtain ⟨s, hs, q⟩ := hv
  obtain ⟨st', e⟩ := hl ns hn s hs
  exact ⟨[], [], [], [s], hR, .cons q .nil, rfl, .ok (.bl true), st', e, fun M' H' v _ _ hv => by cases hv; rfl⟩
/-- a def that lets no error out -/
theorem fn_still {P : Program} {w : World} {K : PySem.W.Frag} {mg : Str → Option Value} {base : Heap} {k : Nat} {f : Addr} {fd : FuncData} {ps : List Str} {sp : Sp} (F : FnOk P w K mg base (L2.CX P w) k f fd ps sp) :
    FnOk P w K mg base (fun _ _ _ _ _ _ => False) k f fd ps (fun vs H Q _ => sp vs H Q fun _ _ _ => False) := by
  refine ⟨fun vs H Q E h => F.len vs H Q _ h, fun A outer s H args us vs Q E hr h0 hb hv h => codeAny_mono (F.run A outer s H args us vs Q _ hr h0 hb hv h) fun r s' z => ?_⟩
  cases r with
  | ok f =>
    cases f with
    | ret u => exact z
    | _ => exact z
  | error e =>
    obtain ⟨_, _, _, _, _, _, _, _, _, _, _, _, z⟩ := z
    exact z
theorem walk_law {l : PySem.W.OpenLaw} {T : List Ent} {ex : List Str} {pl : Bool} {ini : Stmt} {n k : Nat} {q : Program} {loose : List Str} {XP : (Str → Option Value) → Heap → Prop} {d : DefRec} {e : Ent} (hn : l.most = some 63) (hd : d.params.defaults = []) (hdn : d.name = ("law" : Str)) (hr : Room k callerA)
    (nd : nodupB (T.map (·.df.name)) = true) (txt : T.all (entB (T.map (·.df.name)) ex pl) = true) (hb : ∀ e ∈ T, BindE e) (hi : pl = true → IsIni ini) (he : e ∈ T) (hen : e.df.name = ("law" : Str)) (hep : e.df.ps = ([("script" : Str)] : List Str)) (hl : Says T k) :
    PySem.W.WalkO q loose XP (hookP n (faOf T ex pl) (fnDs T pl ini) pl).says l.row.toRowW d [] (fun f vs => PySem.call f vs) := by
  refine L2.walk_ofE (x := "script") (CX := fun _ _ _ _ _ _ => False) hn (by decide) hd hr (fun w mg fa h Y G hmg => ?_) (fun _ _ _ _ z => z)
  obtain ⟨K, KX, c⟩ := Y
  have O := tab_of KX G c nd txt hb hi
  obtain ⟨a, fd, hm, F, hB⟩ := O.ents e he
  rw [hen] at hm
  rw [hdn] at hmg
  have := hmg.symm.trans hm
  cases this
  refine ⟨K, fd, fun vs H Q _ => spF K mg 1 (calls (dfs T) k "law") vs H Q fun _ _ _ => False, KX, fun s u => ?_, fun H a ns hl2 _ hS => law_of hl hl2 hS, fun base _ _ => ?_⟩
  · obtain ⟨oc, od, kV, doc, pm, an, cdv, ct, osl, rfl, lk, hcd⟩ := F.ex
    have hz := hb e he kV doc pm an cdv ct [u] (by rw [hep]; rfl)
    rw [hep] at hz
    exact .of_eq hz
  · have z := fn_still (fn_ok (P := l.prog) (w := w) (base := base) O k e he _ fd F)
    rw [hep, hen] at z
    exact z
end Cl

/-! Cl, part T: reckoning with clean programs. -/
namespace Cl
open PySem L2
mutual
/-- no place of the store within -/
def noL : D → Bool
  | .tup xs => noLs xs
  | .lst xs => noLs xs
  | .rol xs => noLs xs
  | .loc _ => false
  | _ => true
def noLs : List D → Bool
  | [] => true
  | x :: xs => noL x && noLs xs
end
section
variable {b : Bool} {i : Int} {s : Str} {xs : List D} {x : D}
@[simp] theorem noL_non : noL .non = true := rfl
@[simp] theorem noL_bl : noL (.bl b) = true := rfl
@[simp] theorem noL_int : noL (.int i) = true := rfl
@[simp] theorem noL_str : noL (.str s) = true := rfl
@[simp] theorem noL_tup : noL (.tup xs) = noLs xs := rfl
@[simp] theorem noL_lst : noL (.lst xs) = noLs xs := rfl
@[simp] theorem noL_rol : noL (.rol xs) = noLs xs := rfl
@[simp] theorem noLs_nil : noLs [] = true := rfl
@[simp] theorem noLs_cons : noLs (x :: xs) = (noL x && noLs xs) := rfl
end
mutual
theorem frzD_noL (f : Nat → Option D) : ∀ {d : D}, noL d = true → frzD f d = some d
  | .non, _ => rfl
  | .bl _, _ => rfl
  | .int _, _ => rfl
  | .str _, _ => rfl
  | .tup xs, h => by simp only [frzD, frzL_noL f (show noLs xs = true from h)]
  | .lst xs, h => by simp only [frzD, frzL_noL f (show noLs xs = true from h)]
  | .rol xs, h => by simp only [frzD, frzL_noL f (show noLs xs = true from h)]
  | .loc _, h => by cases h
theorem frzL_noL (f : Nat → Option D) : ∀ {ds : List D}, noLs ds = true → frzL f ds = some ds
  | [], _ => rfl
  | d :: ds, h => by
    have h := Bool.and_eq_true_iff.mp (show (noL d && noLs ds) = true from h)
    simp only [frzL, frzD_noL f h.1, frzL_noL f h.2]
end
theorem noLs_iff : ∀ {ds : List D}, noLs ds = true ↔ ∀ d ∈ ds, noL d = true
  | [] => by simp [noLs]
  | d :: ds => by simp [noLs, noLs_iff (ds := ds)]
theorem noLs_append {a b : List D} (ha : noLs a = true) (hb : noLs b = true) : noLs (a ++ b) = true := by
  rw [noLs_iff] at *
  intro d hd
  rcases List.mem_append.mp hd with h | h
  · exact ha d h
  · exact hb d h
theorem noLs_map {α : Type} {f : α → D} (h : ∀ a, noL (f a) = true) (l : List α) : noLs (l.map f) = true := by
  rw [noLs_iff]
  intro d hd
  obtain ⟨a, _, rfl⟩ := List.mem_map.mp hd
  exact h a
theorem noLs_map' {α : Type} {f : α → D} {l : List α} (h : ∀ a ∈ l, noL (f a) = true) : noLs (l.map f) = true := by
  rw [noLs_iff]
  intro d hd
  obtain ⟨a, ha, rfl⟩ := List.mem_map.mp hd
  exact h a ha
theorem O.beq_refl : ∀ o : O, O.beq o o = true
  | .lst xs => by simp [O.beq, Ds.beq_refl]
  | .dK k => by simp [O.beq, Ds.beq_refl]
  | .dT k => by simp [O.beq, Ds.beq_refl]
theorem okPre_app (n : Nat) : ∀ (st t : Store), okPre n st (st ++ t) = true
  | [], _ => rfl
  | a :: r, t => by simp [okPre, O.beq_refl, okPre_app n r t]
theorem fin_app {st t : Store} {d : D} (h : noL d = true) : Df.fin true st (st ++ t) d = some (.ok d, st) := by
  simp [Df.fin, frzD_noL _ h, okPre_app]
theorem fin_same {st : Store} {d : D} (h : noL d = true) : Df.fin true st st d = some (.ok d, st) := by
  have := fin_app (st := st) (t := []) h
  rwa [List.append_nil] at this
/-! ### for -/
section
variable {σ α : Type}
/-- a for that goes to its end; P: what is known of the items still to come -/
theorem forGo_inv {src : Src} {turn : D → Env → Store → Option Out} {Inv : σ → Env → Store → Prop} {P : List α → σ → Prop} {step : σ → α → σ} {f : α → D} (hok : ∀ x env st, Inv x env st → src.ok st = true)
    (h : ∀ x a l env st, P (a :: l) x → Inv x env st → ∃ env' st', (turn (f a) env st = some (.nx env' st') ∨ turn (f a) env st = some (.ct env' st')) ∧ Inv (step x a) env' st' ∧ P l (step x a)) :
    ∀ (l : List α) (x : σ) (env : Env) (st : Store), P l x → Inv x env st → ∃ env' st', forGo src turn (l.map f) env st = some (.nx env' st') ∧ Inv (l.foldl step x) env' st'
  | [], x, env, st, _, i => ⟨env, st, by simp [-Src.ok, forGo, hok x env st i], i⟩
  | a :: l, x, env, st, p, i => by
    obtain ⟨env', st', e, i', p'⟩ := h x a l env st p i
    obtain ⟨env2, st2, e2, i2⟩ := forGo_inv hok h l (step x a) env' st' p' i'
    refine ⟨env2, st2, ?_, i2⟩
    rw [List.map_cons]
    unfold forGo
    rw [if_pos (hok x env st i)]
    rcases e with e | e
    · rw [e]; exact e2
    · rw [e]; exact e2
end

/-! ### data -/
mutual
def pd : D → PyData
  | .non => .none
  | .bl b => .bool b
  | .int i => .int i
  | .str s => .str s
  | .tup xs => .tuple (pds xs)
  | .lst xs => .list (pds xs)
  | .rol xs => .list (pds xs)
  | .loc _ => .none
def pds : List D → List PyData
  | [] => []
  | x :: xs => pd x :: pds xs
end
mutual
/-- data of so small a depth, without places; texts without strange signs -/
def plainD : Nat → D → Bool
  | _, .non => true
  | _, .bl _ => true
  | _, .int _ => true
  | _, .str s => PyData.strOk s
  | n + 1, .tup xs => plainDs n xs
  | n + 1, .lst xs => plainDs n xs
  | n + 1, .rol xs => plainDs n xs
  | _, _ => false
def plainDs : Nat → List D → Bool
  | _, [] => true
  | n, x :: xs => plainD n x && plainDs n xs
end
theorem plainDs_iff {n : Nat} : ∀ {ds : List D}, plainDs n ds = true ↔ ∀ d ∈ ds, plainD n d = true
  | [] => by simp [plainDs]
  | d :: ds => by simp [plainDs, plainDs_iff (ds := ds)]
theorem plainDs_map {α : Type} {n : Nat} {f : α → D} (h : ∀ a, plainD n (f a) = true) (l : List α) : plainDs n (l.map f) = true := by
  rw [plainDs_iff]
  intro d hd
  obtain ⟨a, _, rfl⟩ := List.mem_map.mp hd
  exact h a
mutual
theorem den_plain (f : Nat → Option PyData) : ∀ {n : Nat} {d : D}, plainD n d = true → den f d = some (pd d)
  | _, .non, _ => rfl
  | _, .bl _, _ => rfl
  | _, .int _, _ => rfl
  | _, .str _, _ => rfl
  | n + 1, .tup xs, h => by simp only [den, denL_plain f (n := n) (show plainDs n xs = true from h), pd]
  | n + 1, .lst xs, h => by simp only [den, denL_plain f (n := n) (show plainDs n xs = true from h), pd]
  | n + 1, .rol xs, h => by simp only [den, denL_plain f (n := n) (show plainDs n xs = true from h), pd]
  | 0, .tup _, h => by simp [plainD] at h
  | 0, .lst _, h => by simp [plainD] at h
  | 0, .rol _, h => by simp [plainD] at h
  | _, .loc _, h => by simp [plainD] at h
theorem denL_plain (f : Nat → Option PyData) : ∀ {n : Nat} {ds : List D}, plainDs n ds = true → denL f ds = some (pds ds)
  | _, [], _ => rfl
  | n, d :: ds, h => by
    have h := Bool.and_eq_true_iff.mp (show (plainD n d && plainDs n ds) = true from h)
    simp only [denL, den_plain f h.1, denL_plain f h.2, pds]
end
mutual
theorem shape_plain : ∀ {n : Nat} {d : D}, plainD n d = true → (pd d).canLay0 = true ∧ (pd d).depth ≤ n
  | _, .non, _ => ⟨rfl, Nat.zero_le _⟩
  | _, .bl _, _ => ⟨rfl, Nat.zero_le _⟩
  | _, .int _, _ => ⟨rfl, Nat.zero_le _⟩
  | _, .str s, h => ⟨by simpa [plainD, pd, PyData.canLay0] using h, Nat.zero_le _⟩
  | n + 1, .tup xs, h => by
    have ⟨a, b⟩ := shapes_plain (n := n) (show plainDs n xs = true from h)
    exact ⟨by simpa [pd, PyData.canLay0] using a, by simpa [pd, PyData.depth] using b⟩
  | n + 1, .lst xs, h => by
    have ⟨a, b⟩ := shapes_plain (n := n) (show plainDs n xs = true from h)
    exact ⟨by simpa [pd, PyData.canLay0] using a, by simpa [pd, PyData.depth] using b⟩
  | n + 1, .rol xs, h => by
    have ⟨a, b⟩ := shapes_plain (n := n) (show plainDs n xs = true from h)
    exact ⟨by simpa [pd, PyData.canLay0] using a, by simpa [pd, PyData.depth] using b⟩
  | 0, .tup _, h => by simp [plainD] at h
  | 0, .lst _, h => by simp [plainD] at h
  | 0, .rol _, h => by simp [plainD] at h
  | _, .loc _, h => by simp [plainD] at h
theorem shapes_plain : ∀ {n : Nat} {ds : List D}, plainDs n ds = true → PyData.canLayAll0 (pds ds) = true ∧ PyData.depthAll (pds ds) ≤ n
  | _, [], _ => ⟨rfl, Nat.zero_le _⟩
  | n, d :: ds, h => by
    have h := Bool.and_eq_true_iff.mp (show (plainD n d && plainDs n ds) = true from h)
    have ⟨a, b⟩ := shape_plain h.1
    have ⟨c, e⟩ := shapes_plain h.2
    exact ⟨by simp only [pds, PyData.canLayAll0, a, c]; rfl, by simp only [pds, PyData.depthAll]; exact Nat.max_le.mpr ⟨b, e⟩⟩
end
theorem shaped_plain {d : D} (h : plainD 64 d = true) : SeqAt.shaped (pd d) = true := by
  have ⟨a, b⟩ := shape_plain h
  unfold SeqAt.shaped
  rw [a, decide_eq_true b]; rfl
mutual
theorem eqv_refl : ∀ (d : D), (pd d).eqv (pd d) = true
  | .non => rfl
  | .bl b => by simp [pd, PyData.eqv]
  | .int b => by simp [pd, PyData.eqv]
  | .str b => by simp [pd, PyData.eqv]
  | .tup xs => by simpa [pd, PyData.eqv] using eqvs_refl xs
  | .lst xs => by simpa [pd, PyData.eqv] using eqvs_refl xs
  | .rol xs => by simpa [pd, PyData.eqv] using eqvs_refl xs
  | .loc _ => rfl
theorem eqvs_refl : ∀ (ds : List D), PyData.eqvAll (pds ds) (pds ds) = true
  | [] => rfl
  | d :: ds => by simp only [pds, PyData.eqvAll, eqv_refl d, eqvs_refl ds]; rfl
end
section
variable {st : Store} {a b : D}
theorem eqD_plain (ha : plainD 64 a = true) (hb : plainD 64 b = true) : eqD st a b = some ((pd a).eqv (pd b)) := by
  unfold eqD toP
  rw [den_plain _ ha, den_plain _ hb]
  dsimp only
  rw [if_pos ⟨shaped_plain ha, shaped_plain hb⟩]
theorem eqD_refl (ha : plainD 64 a = true) : eqD st a a = some true := by rw [eqD_plain ha ha, eqv_refl]
@[simp] theorem eqD_int (i j : Int) : eqD st (.int i) (.int j) = some (decide (i = j)) := by
  rw [eqD_plain rfl rfl]
  simp [pd, PyData.eqv]
  by_cases h : i = j <;> simp [h]
end
mutual
/-- no bool, no read-only list -/
def solid : D → Bool
  | .bl _ => false
  | .rol _ => false
  | .loc _ => false
  | .tup xs => solids xs
  | .lst xs => solids xs
  | _ => true
def solids : List D → Bool
  | [] => true
  | x :: xs => solid x && solids xs
end
theorem solids_iff : ∀ {ds : List D}, solids ds = true ↔ ∀ d ∈ ds, solid d = true
  | [] => by simp [solids]
  | d :: ds => by simp [solids, solids_iff (ds := ds)]
theorem solids_map {α : Type} {f : α → D} (h : ∀ a, solid (f a) = true) (l : List α) : solids (l.map f) = true := by
  rw [solids_iff]
  intro d hd
  obtain ⟨a, _, rfl⟩ := List.mem_map.mp hd
  exact h a
mutual
theorem eqv_solid : ∀ (a b : D), solid a = true → solid b = true → (pd a).eqv (pd b) = D.beq a b
  | .non, b, _, h => by cases b <;> simp_all [pd, PyData.eqv, D.beq, solid]
  | .int _, b, _, h => by cases b <;> simp_all [pd, PyData.eqv, D.beq, solid]
  | .str _, b, _, h => by cases b <;> simp_all [pd, PyData.eqv, D.beq, solid]
  | .tup xs, b, h1, h => by
    cases b with
    | tup ys => simpa [pd, PyData.eqv, D.beq] using eqvs_solid xs ys h1 h
    | _ => simp_all [pd, PyData.eqv, D.beq, solid]
  | .lst xs, b, h1, h => by
    cases b with
    | lst ys => simpa [pd, PyData.eqv, D.beq] using eqvs_solid xs ys h1 h
    | _ => simp_all [pd, PyData.eqv, D.beq, solid]
  | .bl _, _, h, _ => by cases h
  | .rol _, _, h, _ => by cases h
  | .loc _, _, h, _ => by cases h
theorem eqvs_solid : ∀ (a b : List D), solids a = true → solids b = true → PyData.eqvAll (pds a) (pds b) = Ds.beq a b
  | [], [], _, _ => rfl
  | [], _ :: _, _, _ => rfl
  | _ :: _, [], _, _ => rfl
  | x :: xs, y :: ys, h1, h2 => by
    have h1 := Bool.and_eq_true_iff.mp (show (solid x && solids xs) = true from h1)
    have h2 := Bool.and_eq_true_iff.mp (show (solid y && solids ys) = true from h2)
    simp only [pds, PyData.eqvAll, Ds.beq, eqv_solid x y h1.1 h2.1, eqvs_solid xs ys h1.2 h2.2]
end
theorem eqD_solid {st : Store} {a b : D} (ha : plainD 64 a = true) (hb : plainD 64 b = true) (sa : solid a = true) (sb : solid b = true) : eqD st a b = some (D.beq a b) := by
  rw [eqD_plain ha hb, eqv_solid a b sa sb]
/-- x in a list or a tuple -/
theorem any_pds (x : D) (hx : solid x = true) : ∀ (ys : List D), solids ys = true → ((pds ys).any fun z => PyData.eqv z (pd x)) = ys.any fun y => D.beq y x
  | [], _ => rfl
  | y :: ys, h => by
    have h := Bool.and_eq_true_iff.mp (show (solid y && solids ys) = true from h)
    simp only [pds, List.any_cons, eqv_solid y x h.1 hx, any_pds x hx ys h.2]
theorem inD_tup {st : Store} {x : D} {ys : List D} (hx : plainD 64 x = true) (hy : plainDs 63 ys = true) (sx : solid x = true) (sy : solids ys = true) : inD st x (.tup ys) = some (ys.any fun y => D.beq y x) := by
  unfold inD toP
  rw [den_plain _ hx, den_plain (n := 64) _ (show plainD 64 (.tup ys) = true from hy)]
  dsimp only [pd]
  rw [if_pos ⟨shaped_plain hx, shaped_plain (d := .tup ys) hy⟩, any_pds x sx ys sy]
theorem inD_lst {st : Store} {x : D} {ys : List D} (hx : plainD 64 x = true) (hy : plainDs 63 ys = true) (sx : solid x = true) (sy : solids ys = true) : inD st x (.lst ys) = some (ys.any fun y => D.beq y x) := by
  unfold inD toP
  rw [den_plain _ hx, den_plain (n := 64) _ (show plainD 64 (.lst ys) = true from hy)]
  dsimp only [pd]
  rw [if_pos ⟨shaped_plain hx, shaped_plain (d := .lst ys) hy⟩, any_pds x sx ys sy]

/-! ### comprehensions, loops -/
theorem compGo_ok {α : Type} {src : Src} {n : Nat} {turn : D → Store → Option (Option D × Store)} {st : Store} {f : α → D} {gg : α → Option D} (hn : st.length = n) (ho : src.ok st = true) :
    ∀ (l : List α) (acc : List D), acc.length + l.length ≤ 100000 → (∀ a ∈ l, turn (f a) st = some (gg a, st)) → compGo src n turn (l.map f) acc st = some (acc ++ l.filterMap gg, st)
  | [], acc, _, _ => by simp [-Src.ok, compGo, ho]
  | a :: l, acc, hl, h => by
    rw [List.length_cons] at hl
    rw [List.map_cons]
    unfold compGo
    rw [if_pos ⟨ho, by omega⟩, h a List.mem_cons_self]
    cases hg : gg a with
    | none =>
      dsimp only
      rw [if_pos hn, compGo_ok hn ho l acc (by omega) fun b hb => h b (List.mem_cons_of_mem _ hb)]
      rw [List.filterMap_cons_none hg]
    | some x =>
      dsimp only
      rw [if_pos hn, compGo_ok hn ho l (acc ++ [x]) (by simp; omega) fun b hb => h b (List.mem_cons_of_mem _ hb)]
      rw [List.filterMap_cons_some hg]
      simp
theorem comp_ok {α : Type} {cf : CF} {g : CT} {it : CI} {co : CO} {c : CE} {own : List Nat} {x : CE} {env : Env} {st : Store} {src : Src} {l : List α} {f : α → D} {gg : α → Option D} (hx : x = .comp g it co c own) (hi : evI cf it env st = some (.ok src, st)) (hs : src.items = l.map f) (ho : src.ok st = true) (hn : l.length ≤ 100000)
    (h : ∀ a ∈ l, turnC cf g co c (wipeE env own) (f a) st = some (gg a, st)) : (ev cf x env).x st = some (.ok (.f (l.filterMap gg)), st) := by
  subst hx
  show bnd (evI cf it env) (fun src => fun st => match compGo src st.length (turnC cf g co c (wipeE env own)) src.items [] st with
      | some (ds, st1) => some (.ok (E.f ds), st1)
      | none => none) st = _
  unfold Cl.bnd
  rw [hi]
  dsimp only
  rw [hs, compGo_ok rfl ho l [] (by simpa using hn) h]
  rfl
/-- all kept -/
theorem comp_all {α : Type} {cf : CF} {g : CT} {it : CI} {c : CE} {own : List Nat} {x : CE} {env : Env} {st : Store} {src : Src} {l : List α} {f : α → D} {gg : α → D} (hx : x = .comp g it .no c own) (hi : evI cf it env st = some (.ok src, st)) (hs : src.items = l.map f) (ho : src.ok st = true) (hn : l.length ≤ 100000)
    (h : ∀ a ∈ l, turnC cf g .no c (wipeE env own) (f a) st = some (some (gg a), st)) : (ev cf x env).x st = some (.ok (.f (l.map gg)), st) := by
  have := comp_ok (gg := fun a => some (gg a)) hx hi hs ho hn h
  rw [this]
  simp
@[simp] def turnS (cf : CF) (t : CT) (b : CSs) (d : D) (env : Env) (st : Store) : Option Out := match bdT cf t d env st with
  | some (.ok env2, st3) => evSs cf b env2 st3
  | _ => none
section
variable {σ α : Type}
/-- a for that goes to its end -/
theorem frs_ok {cf : CF} {t : CT} {it : CI} {b : CSs} {s : CS} {env : Env} {st st1 : Store} {src : Src} {l : List α} {f : α → D} (P : List α → σ → Prop) (Inv : σ → Env → Store → Prop) (step : σ → α → σ) (x0 : σ) (hx : s = .frs t it b) (hi : evI cf it env st = some (.ok src, st1)) (hs : src.items = l.map f)
    (hok : ∀ x env st, Inv x env st → src.ok st = true) (hp : P l x0) (h0 : Inv x0 env st1) (h : ∀ x a l env st, P (a :: l) x → Inv x env st → ∃ env' st', (turnS cf t b (f a) env st = some (.nx env' st') ∨ turnS cf t b (f a) env st = some (.ct env' st')) ∧ Inv (step x a) env' st' ∧ P l (step x a)) :
    ∃ env' st', evS cf s env st = some (.nx env' st') ∧ Inv (l.foldl step x0) env' st' := by
  subst hx
  obtain ⟨env', st', e, i⟩ := forGo_inv (turn := turnS cf t b) hok h l x0 env st1 hp h0
  refine ⟨env', st', ?_, i⟩
  show thnS (evI cf it env) env st (fun src st1 => forGo src (turnS cf t b) src.items env st1) = _
  unfold thnS
  rw [hi]
  dsimp only
  rw [hs]
  exact e
/-- a for that may end in a return -/
theorem forGo_opt {src : Src} {turn : D → Env → Store → Option Out} {Inv : σ → Env → Store → Prop} {P : List α → σ → Prop} {step : σ → α → Option σ} {f : α → D} {Post : Out → Prop} (hok : ∀ x env st, Inv x env st → src.ok st = true)
    (h : ∀ x a l env st, P (a :: l) x → Inv x env st → match step x a with
      | some y => ∃ env' st', (turn (f a) env st = some (.nx env' st') ∨ turn (f a) env st = some (.ct env' st')) ∧ Inv y env' st' ∧ P l y
      | none => ∃ d st', turn (f a) env st = some (.rt d st') ∧ Post (.rt d st')) :
    ∀ (l : List α) (x : σ) (env : Env) (st : Store), P l x → Inv x env st → match l.foldlM step x with
      | some y => ∃ env' st', forGo src turn (l.map f) env st = some (.nx env' st') ∧ Inv y env' st'
      | none => ∃ d st', forGo src turn (l.map f) env st = some (.rt d st') ∧ Post (.rt d st')
  | [], x, env, st, _, i => ⟨env, st, by simp [-Src.ok, forGo, hok x env st i], i⟩
  | a :: l, x, env, st, p, i => by
    have z := h x a l env st p i
    rw [List.foldlM_cons]
    cases hy : step x a with
    | none =>
      rw [hy] at z
      obtain ⟨d, st', e, p⟩ := z
      refine ⟨d, st', ?_, p⟩
      rw [List.map_cons]
      unfold forGo
      rw [if_pos (hok x env st i), e]
    | some y =>
      rw [hy] at z
      obtain ⟨env', st', e, i', p'⟩ := z
      have ih := forGo_opt hok h l y env' st' p' i'
      show match l.foldlM step y with
      | some y => ∃ env' st', forGo src turn ((a :: l).map f) env st = some (.nx env' st') ∧ Inv y env' st'
      | none => ∃ d st', forGo src turn ((a :: l).map f) env st = some (.rt d st') ∧ Post (.rt d st')
      have e1 : forGo src turn ((a :: l).map f) env st = forGo src turn (l.map f) env' st' := by
        rw [List.map_cons]
        conv => lhs; unfold forGo
        rw [if_pos (hok x env st i)]
        rcases e with e | e <;> rw [e]
      rw [e1]
      exact ih
theorem frs_opt {cf : CF} {t : CT} {it : CI} {b : CSs} {s : CS} {env : Env} {st st1 : Store} {src : Src} {l : List α} {f : α → D} (P : List α → σ → Prop) (Inv : σ → Env → Store → Prop) (step : σ → α → Option σ) (Post : Out → Prop) (x0 : σ) (hx : s = .frs t it b) (hi : evI cf it env st = some (.ok src, st1)) (hs : src.items = l.map f)
    (hok : ∀ x env st, Inv x env st → src.ok st = true) (hp : P l x0) (h0 : Inv x0 env st1) (h : ∀ x a l env st, P (a :: l) x → Inv x env st → match step x a with
      | some y => ∃ env' st', (turnS cf t b (f a) env st = some (.nx env' st') ∨ turnS cf t b (f a) env st = some (.ct env' st')) ∧ Inv y env' st' ∧ P l y
      | none => ∃ d st', turnS cf t b (f a) env st = some (.rt d st') ∧ Post (.rt d st')) :
    match l.foldlM step x0 with
    | some y => ∃ env' st', evS cf s env st = some (.nx env' st') ∧ Inv y env' st'
    | none => ∃ d st', evS cf s env st = some (.rt d st') ∧ Post (.rt d st') := by
  subst hx
  have z := forGo_opt (turn := turnS cf t b) hok h l x0 env st1 hp h0
  have e1 : evS cf (.frs t it b) env st = forGo src (turnS cf t b) (l.map f) env st1 := by
    show thnS (evI cf it env) env st (fun src st1 => forGo src (turnS cf t b) src.items env st1) = _
    unfold thnS
    rw [hi]
    dsimp only
    rw [hs]
  rw [e1]
  exact z
end
end Cl

/-! the clean programs, printed by gen.py from the law’s text -/
namespace K02
open PySem Cl
def top (i : Nat) : Stmt := PySem.Challenge.pw_bothroads_k02_main_runs_as_orders.main.body.getD i (.Pass ⟨0, 0, 0, 0⟩)
def c_is_number : CSs := (.cons (.ret (.and (.isi (.var 0) [.int]) (.not (.isi (.var 0) [.bool])))) .nil)
def d_is_number : Df := ⟨"is_number", ["thing"], ["thing"], c_is_number, true⟩
def x_tuple_of_1 : CE := .comp (.nm 1) (.over (.var 0)) .no (.cal "tuple_of" (.cons (.var 1) .nil)) [1]
def c_tuple_of : CSs := (.cons (.ite (.isi (.var 0) [.list, .tuple]) (.cons (.ret (.bi .tuple (.cons x_tuple_of_1 .nil))) .nil) .nil) (.cons (.ret (.var 0)) .nil))
def d_tuple_of : Df := ⟨"tuple_of", ["thing"], ["thing", "part"], c_tuple_of, true⟩
def c_is_tuple_of : CSs := (.cons (.ret (.and (.isi (.var 0) [.tuple]) (.cmp .Eq (.bi .len (.cons (.var 0) .nil)) (.var 1)))) .nil)
def d_is_tuple_of : Df := ⟨"is_tuple_of", ["thing", "many"], ["thing", "many"], c_is_tuple_of, true⟩
def c_is_event : CSs := (.cons (.ite (.or (.not (.cal "is_tuple_of" (.cons (.var 0) (.cons (.int 2) .nil)))) (.or (.not (.cal "is_number" (.cons (.idx (.var 0) (.int 0)) .nil))) (.not (.cal "is_number" (.cons (.idx (.var 0) (.int 1)) .nil))))) (.cons (.ret (.bl false)) .nil) .nil) (.cons (.ret (.and (.cmp .In (.idx (.var 0) (.int 0)) (.tup (.cons (.int 0) (.cons (.int 1) .nil)))) (.cmp .GtE (.idx (.var 0) (.int 1)) (.int 0)))) .nil))
def d_is_event : Df := ⟨"is_event", ["thing"], ["thing"], c_is_event, true⟩
def b_is_run_1 : CSs := (.cons (.ite (.cmp .Gt (.var 3) (.int 0)) (.cons (.augS (.var 1) (.bin .Sub (.int 1) (.var 2)) .Add (.int 1)) .nil) (.cons (.ite (.cmp .Eq (.idx (.var 1) (.var 2)) (.int 0)) (.cons (.ret (.bl false)) .nil) (.cons (.augS (.var 1) (.var 2) .Sub (.int 1)) .nil)) .nil)) .nil)
def l_is_run_1 : CS := .frs (.tup (.cons (.nm 2) (.cons (.nm 3) .nil))) (.over (.var 0)) b_is_run_1
def x_is_run_1 : CE := .comp (.nm 4) (.over (.var 0)) .no (.cal "is_event" (.cons (.var 4) .nil)) [4]
def c_is_run : CSs := (.cons (.ite (.or (.not (.isi (.var 0) [.tuple])) (.not (.bi .all (.cons x_is_run_1 .nil)))) (.cons (.ret (.bl false)) .nil) .nil) (.cons (.asg (.nm 1) (.adopt (.lst (.cons (.int 0) (.cons (.int 0) .nil))))) (.cons l_is_run_1 (.cons (.ret (.bl true)) .nil))))
def d_is_run : Df := ⟨"is_run", ["thing"], ["thing", "under_way", "side", "letter", "own"], c_is_run, true⟩
def b_numbers_along_1 : CSs := (.cons (.ite (.cmp .Gt (.var 6) (.int 0)) (.cons (.drop (.met .append (.idx (.var 2) (.bin .Sub (.int 1) (.var 5))) (.cons (.var 4) .nil))) (.cons (.drop (.met .append (.var 3) (.cons (.var 4) .nil))) (.cons (.aug 4 .Add (.int 1)) .nil))) (.cons (.drop (.met .append (.var 3) (.cons (.idx (.idx (.var 2) (.var 5)) (.idx (.var 1) (.var 5))) .nil))) (.cons (.augS (.var 1) (.var 5) .Add (.int 1)) .nil))) .nil)
def l_numbers_along_1 : CS := .frs (.tup (.cons (.nm 5) (.cons (.nm 6) .nil))) (.over (.var 0)) b_numbers_along_1
def c_numbers_along : CSs := (.cons (.par3 2 3 4 (.adopt (.lst (.cons (.adopt (.lst .nil)) (.cons (.adopt (.lst .nil)) .nil)))) (.adopt (.lst .nil)) (.int 0)) (.cons (.asg (.nm 1) (.adopt (.lst (.cons (.int 0) (.cons (.int 0) .nil))))) (.cons l_numbers_along_1 (.cons (.ret (.var 3)) .nil))))
def d_numbers_along : Df := ⟨"numbers_along", ["run"], ["run", "heads", "roads_now", "found", "many", "side", "letter"], c_numbers_along, true⟩
def b_numbers_known_1 : CSs := (.cons (.drop (.met .append (.idx (.var 1) (.var 3)) (.cons (.var 2) .nil))) .nil)
def l_numbers_known_1 : CS := .frs (.tup (.cons (.tup (.cons (.nm 3) (.cons (.nm 4) .nil))) (.cons (.nm 2) .nil))) (.zip (.var 0) (.cal "numbers_along" (.cons (.var 0) .nil))) b_numbers_known_1
def c_numbers_known : CSs := (.cons (.asg (.nm 1) (.adopt (.lst (.cons (.adopt (.lst .nil)) (.cons (.adopt (.lst .nil)) .nil))))) (.cons l_numbers_known_1 (.cons (.ret (.var 1)) .nil)))
def d_numbers_known : Df := ⟨"numbers_known", ["run"], ["run", "found", "number", "side", "_"], c_numbers_known, true⟩
def x_puts_of_1 : CE := .comp (.tup (.cons (.nm 1) (.cons (.nm 2) .nil))) (.over (.var 0)) (.so (.cmp .Gt (.var 2) (.int 0))) (.tup (.cons (.var 1) (.cons (.var 2) .nil))) [1, 2]
def c_puts_of : CSs := (.cons (.ret (.bi .tuple (.cons x_puts_of_1 .nil))) .nil)
def d_puts_of : Df := ⟨"puts_of", ["run"], ["run", "side", "letter"], c_puts_of, true⟩
def x_roads_1 : CE := .comp (.nm 9) (.over (.var 4)) (.so (.cmp .NotEq (.idx (.idx (.var 2) (.var 9)) (.int 0)) (.var 3))) (.var 9) [9]
def x_roads_2 : CE := .comp (.tup (.cons (.nm 7) (.cons (.nm 8) .nil))) (.over (.var 2)) (.so (.cmp .NotEq (.var 7) (.var 3))) (.var 8) [7, 8]
def b_roads_1 : CSs := (.cons (.asg (.nm 5) x_roads_2) (.cons (.asg (.nm 6) (.bi .len (.cons x_roads_1 .nil))) (.cons (.drop (.met .append (.var 1) (.cons (.bi .tuple (.cons (.slc (.var 5) (.so (.var 6)) .no) .nil)) .nil))) .nil)))
def l_roads_1 : CS := .frs (.tup (.cons (.nm 3) (.cons (.nm 4) .nil))) (.enm (.cal "numbers_known" (.cons (.var 0) .nil))) b_roads_1
def c_roads : CSs := (.cons (.asg (.tup (.cons (.nm 1) (.cons (.nm 2) .nil))) (.tup (.cons (.adopt (.lst .nil)) (.cons (.cal "puts_of" (.cons (.var 0) .nil)) .nil)))) (.cons l_roads_1 (.cons (.ret (.bi .tuple (.cons (.var 1) .nil))) .nil)))
def d_roads : Df := ⟨"roads", ["run"], ["run", "found", "puts", "side", "numbers", "sent", "taken", "its", "letter", "number"], c_roads, true⟩
def c_is_at_rest : CSs := (.cons (.ret (.cmp .Eq (.cal "roads" (.cons (.var 0) .nil)) (.tup (.cons (.tup .nil) (.cons (.tup .nil) .nil))))) .nil)
def d_is_at_rest : Df := ⟨"is_at_rest", ["run"], ["run"], c_is_at_rest, true⟩
def c_can_take : CSs := (.cons (.ret (.cmp .NotEq (.idx (.cal "roads" (.cons (.var 0) .nil)) (.var 1)) (.tup .nil))) .nil)
def d_can_take : Df := ⟨"can_take", ["run", "side"], ["run", "side"], c_can_take, true⟩
def b_seen_by_1 : CSs := (.cons (.ite (.cmp .Gt (.var 5) (.int 0)) (.cons (.drop (.met .append (.var 2) (.cons (.bi .tuple (.cons (.bi .sorted (.cons (.idx (.var 1) (.var 4)) .nil)) .nil)) .nil))) .nil) .nil) (.cons (.drop (.met .append (.idx (.var 1) (.var 4)) (.cons (.var 3) .nil))) .nil))
def l_seen_by_1 : CS := .frs (.tup (.cons (.tup (.cons (.nm 4) (.cons (.nm 5) .nil))) (.cons (.nm 3) .nil))) (.zip (.var 0) (.cal "numbers_along" (.cons (.var 0) .nil))) b_seen_by_1
def c_seen_by : CSs := (.cons (.par 1 2 (.adopt (.lst (.cons (.adopt (.lst .nil)) (.cons (.adopt (.lst .nil)) .nil)))) (.adopt (.lst .nil))) (.cons l_seen_by_1 (.cons (.ret (.var 2)) .nil)))
def d_seen_by : Df := ⟨"seen_by", ["run"], ["run", "knows", "found", "number", "side", "letter"], c_seen_by, true⟩
def c_seen : CSs := (.cons (.asg (.nm 2) (.cal "seen_by" (.cons (.var 0) .nil))) (.cons (.ite (.not (.chain .LtE .Lt (.int 0) (.var 1) (.bi .len (.cons (.var 2) .nil)))) (.cons (.rai "NoPlace" (.so (.var 1))) .nil) .nil) (.cons (.ret (.idx (.var 2) (.var 1))) .nil)))
def d_seen : Df := ⟨"seen", ["run", "number"], ["run", "number", "found"], c_seen, true⟩
def c_known : CSs := (.cons (.ret (.bi .tuple (.cons (.bi .sorted (.cons (.idx (.cal "numbers_known" (.cons (.var 0) .nil)) (.var 1)) .nil)) .nil))) .nil)
def d_known : Df := ⟨"known", ["run", "side"], ["run", "side"], c_known, true⟩
def b_settled_1 : CSs := (.cons (.drop (.met .extend (.var 1) (.cons (.bin .Mult (.lst (.cons (.tup (.cons (.var 2) (.cons (.int 0) .nil))) .nil)) (.bi .len (.cons (.var 3) .nil))) .nil))) .nil)
def l_settled_1 : CS := .frs (.tup (.cons (.nm 2) (.cons (.nm 3) .nil))) (.enm (.cal "roads" (.cons (.var 0) .nil))) b_settled_1
def x_settled_1 : CE := .comp (.tup (.cons (.nm 2) (.cons (.nm 4) .nil))) (.over (.var 0)) .no (.tup (.cons (.var 2) (.cons (.var 4) .nil))) [2, 4]
def c_settled : CSs := (.cons (.asg (.nm 1) (.adopt x_settled_1)) (.cons l_settled_1 (.cons (.ret (.bi .tuple (.cons (.var 1) .nil))) .nil)))
def d_settled : Df := ⟨"settled", ["run"], ["run", "found", "side", "word", "letter"], c_settled, true⟩
def x_exchanged_1 : CE := .comp (.tup (.cons (.nm 1) (.cons (.nm 2) .nil))) (.over (.var 0)) .no (.tup (.cons (.bin .Sub (.int 1) (.var 1)) (.cons (.var 2) .nil))) [1, 2]
def c_exchanged : CSs := (.cons (.ret (.bi .tuple (.cons x_exchanged_1 .nil))) .nil)
def d_exchanged : Df := ⟨"exchanged", ["run"], ["run", "side", "letter"], c_exchanged, true⟩
def b__puts_1 : CSs := (.cons (.ite (.cmp .Gt (.var 5) (.int 0)) (.cons (.drop (.met .append (.var 1) (.cons (.tup (.cons (.var 4) (.cons (.var 5) (.cons (.idx (.var 2) (.var 4)) (.cons (.idx (.var 3) (.var 4)) .nil))))) .nil))) (.cons (.augS (.var 3) (.var 4) .Add (.int 1)) .nil)) (.cons (.augS (.var 2) (.var 4) .Add (.int 1)) .nil)) .nil)
def l__puts_1 : CS := .frs (.tup (.cons (.nm 4) (.cons (.nm 5) .nil))) (.over (.var 0)) b__puts_1
def c__puts : CSs := (.cons (.par3 1 2 3 (.adopt (.lst .nil)) (.adopt (.lst (.cons (.int 0) (.cons (.int 0) .nil)))) (.adopt (.lst (.cons (.int 0) (.cons (.int 0) .nil))))) (.cons l__puts_1 (.cons (.ret (.bi .tuple (.cons (.var 1) .nil))) .nil)))
def d__puts : Df := ⟨"_puts", ["run"], ["run", "found", "heard", "many", "side", "letter"], c__puts, true⟩
def x__lanes_1 : CE := .comp (.tup (.cons (.nm 2) (.cons (.nm 3) .nil))) (.enm (.var 0)) (.so (.cmp .Eq (.idx (.var 3) (.int 0)) (.var 1))) (.var 2) [2, 3]
def x__lanes_2 : CE := .comp (.nm 1) (.over (.tup (.cons (.int 0) (.cons (.int 1) .nil)))) .no x__lanes_1 [1]
def c__lanes : CSs := (.cons (.ret x__lanes_2) .nil)
def d__lanes : Df := ⟨"_lanes", ["puts"], ["puts", "side", "number", "put"], c__lanes, true⟩
def b__next_1 : CSs := (.cons (.asg (.nm 5) (.idx (.var 2) (.var 4))) (.cons (.ite (.and (.cmp .Lt (.var 5) (.bi .len (.cons (.idx (.var 1) (.var 4)) .nil))) (.cmp .LtE (.idx (.idx (.var 0) (.idx (.idx (.var 1) (.var 4)) (.var 5))) (.int 2)) (.idx (.var 2) (.bin .Sub (.int 1) (.var 4))))) (.cons (.drop (.met .append (.var 3) (.cons (.idx (.idx (.var 1) (.var 4)) (.var 5)) .nil))) .nil) .nil) .nil))
def l__next_1 : CS := .frs (.nm 4) (.over (.tup (.cons (.int 0) (.cons (.int 1) .nil)))) b__next_1
def c__next : CSs := (.cons (.asg (.nm 3) (.adopt (.lst .nil))) (.cons l__next_1 (.cons (.ret (.bi .sorted (.cons (.var 3) .nil))) .nil)))
def d__next : Df := ⟨"_next", ["puts", "lanes", "spot"], ["puts", "lanes", "spot", "found", "side", "gone"], c__next, true⟩
def c__gone : CSs := (.cons (.ret (.ife (.cmp .Eq (.idx (.idx (.var 0) (.var 2)) (.int 0)) (.int 0)) (.tup (.cons (.bin .Add (.idx (.var 1) (.int 0)) (.int 1)) (.cons (.idx (.var 1) (.int 1)) .nil))) (.tup (.cons (.idx (.var 1) (.int 0)) (.cons (.bin .Add (.idx (.var 1) (.int 1)) (.int 1)) .nil))))) .nil)
def d__gone : Df := ⟨"_gone", ["puts", "spot", "number"], ["puts", "spot", "number"], c__gone, true⟩
def x__ways_1 : CE := .comp (.nm 7) (.over (.cal "_next" (.cons (.var 0) (.cons (.var 1) (.cons (.var 6) .nil))))) .no (.idx (.var 3) (.cal "_gone" (.cons (.var 0) (.cons (.var 6) (.cons (.var 7) .nil))))) [7]
def b__ways_2 : CSs := (.cons (.asg (.nm 6) (.tup (.cons (.var 4) (.cons (.var 5) .nil)))) (.cons (.ite (.cmp .NotEq (.var 6) (.var 2)) (.cons (.asg (.sub (.var 3) (.var 6)) (.bi .sum (.cons x__ways_1 .nil))) .nil) .nil) .nil))
def l__ways_2 : CS := .frs (.nm 5) (.rng (.cons (.idx (.var 2) (.int 1)) (.cons (.neg (.int 1)) (.cons (.neg (.int 1)) .nil)))) b__ways_2
def b__ways_1 : CSs := (.cons l__ways_2 .nil)
def l__ways_1 : CS := .frs (.nm 4) (.rng (.cons (.idx (.var 2) (.int 0)) (.cons (.neg (.int 1)) (.cons (.neg (.int 1)) .nil)))) b__ways_1
def c__ways : CSs := (.cons (.asg (.nm 2) (.tup (.cons (.bi .len (.cons (.idx (.var 1) (.int 0)) .nil)) (.cons (.bi .len (.cons (.idx (.var 1) (.int 1)) .nil)) .nil)))) (.cons (.asg (.nm 3) (.dct1 (.var 2) (.int 1))) (.cons l__ways_1 (.cons (.ret (.var 3)) .nil))))
def d__ways : Df := ⟨"_ways", ["puts", "lanes"], ["puts", "lanes", "most", "found", "ones", "others", "spot", "number"], c__ways, false⟩
def c__has_seen : CSs := (.cons (.ret (.or (.cmp .Eq (.idx (.idx (.var 0) (.var 2)) (.int 0)) (.idx (.idx (.var 0) (.var 1)) (.int 0))) (.cmp .Lt (.idx (.idx (.var 0) (.var 2)) (.int 3)) (.idx (.idx (.var 0) (.var 1)) (.int 2))))) .nil)
def d__has_seen : Df := ⟨"_has_seen", ["puts", "later", "elder"], ["puts", "later", "elder"], c__has_seen, true⟩
def x__is_order_1 : CE := .comp (.nm 8) (.over (.var 7)) .no (.cmp .Lt (.idx (.idx (.var 0) (.var 8)) (.int 3)) (.idx (.idx (.var 0) (.var 3)) (.int 2))) [8]
def b__is_order_1 : CSs := (.cons (.asg (.nm 6) (.idx (.idx (.var 0) (.var 3)) (.int 0))) (.cons (.asg (.nm 7) (.slc (.idx (.var 4) (.bin .Sub (.int 1) (.var 6))) (.so (.idx (.var 5) (.bin .Sub (.int 1) (.var 6)))) (.so (.bin .Add (.idx (.var 5) (.bin .Sub (.int 1) (.var 6))) (.int 1))))) (.cons (.ite (.or (.cmp .NotEq (.idx (.idx (.var 4) (.var 6)) (.idx (.var 5) (.var 6))) (.var 3)) (.bi .any (.cons x__is_order_1 .nil))) (.cons (.ret (.bl false)) .nil) .nil) (.cons (.augS (.var 5) (.var 6) .Add (.int 1)) .nil))))
def l__is_order_1 : CS := .frs (.nm 3) (.over (.var 2)) b__is_order_1
def x__is_order_2 : CE := .comp (.nm 8) (.over (.bi .sorted (.cons (.var 2) .nil))) (.so (.cmp .Eq (.idx (.idx (.var 0) (.var 8)) (.int 0)) (.var 6))) (.var 8) [8]
def x__is_order_3 : CE := .comp (.nm 6) (.over (.tup (.cons (.int 0) (.cons (.int 1) .nil)))) .no x__is_order_2 [6]
def c__is_order : CSs := (.cons (.ite (.cmp .NotEq (.bi .sorted (.cons (.var 2) .nil)) (.bi .sorted (.cons (.var 1) .nil))) (.cons (.ret (.bl false)) .nil) .nil) (.cons (.par 4 5 x__is_order_3 (.adopt (.lst (.cons (.int 0) (.cons (.int 0) .nil))))) (.cons l__is_order_1 (.cons (.ret (.bl true)) .nil))))
def d__is_order : Df := ⟨"_is_order", ["puts", "numbers", "row"], ["puts", "numbers", "row", "number", "lanes", "come", "side", "others", "own"], c__is_order, true⟩
def x__is_row_1 : CE := .comp (.nm 1) (.over (.var 0)) .no (.cal "is_number" (.cons (.var 1) .nil)) [1]
def c__is_row : CSs := (.cons (.ret (.and (.isi (.var 0) [.tuple]) (.bi .all (.cons x__is_row_1 .nil)))) .nil)
def d__is_row : Df := ⟨"_is_row", ["thing"], ["thing", "own"], c__is_row, true⟩
def c_is_weaving : CSs := (.cons (.asg (.nm 2) (.cal "_puts" (.cons (.var 0) .nil))) (.cons (.ret (.and (.cal "_is_row" (.cons (.var 1) .nil)) (.cal "_is_order" (.cons (.var 2) (.cons (.rngS .no (.bi .len (.cons (.var 2) .nil)) false) (.cons (.var 1) .nil)))))) .nil))
def d_is_weaving : Df := ⟨"is_weaving", ["run", "thing"], ["run", "thing", "puts"], c_is_weaving, true⟩
def b_is_weaving_of_1 : CSs := (.cons (.ite (.not (.chain .LtE .Lt (.int 0) (.var 4) (.bi .len (.cons (.var 3) .nil)))) (.cons (.rai "NoPlace" (.so (.var 4))) .nil) .nil) .nil)
def l_is_weaving_of_1 : CS := .frs (.nm 4) (.over (.var 1)) b_is_weaving_of_1
def c_is_weaving_of : CSs := (.cons (.asg (.nm 3) (.cal "_puts" (.cons (.var 0) .nil))) (.cons l_is_weaving_of_1 (.cons (.ret (.and (.cal "_is_row" (.cons (.var 2) .nil)) (.cal "_is_order" (.cons (.var 3) (.cons (.var 1) (.cons (.var 2) .nil)))))) .nil)))
def d_is_weaving_of : Df := ⟨"is_weaving_of", ["run", "numbers", "thing"], ["run", "numbers", "thing", "puts", "number"], c_is_weaving_of, true⟩
def x_reads_1 : CE := .comp (.nm 5) (.over (.var 4)) .no (.idx (.idx (.var 3) (.var 5)) (.int 1)) [5]
def x_reads_2 : CE := .comp (.nm 5) (.over (.var 4)) (.so (.chain .LtE .Lt (.int 0) (.var 5) (.bi .len (.cons (.var 3) .nil)))) (.var 5) [5]
def c_reads : CSs := (.cons (.asg (.tup (.cons (.nm 3) (.cons (.nm 4) .nil))) (.tup (.cons (.cal "_puts" (.cons (.var 0) .nil)) (.cons (.cal "tuple_of" (.cons (.var 1) .nil)) .nil)))) (.cons (.asg (.nm 2) (.ife (.cal "_is_row" (.cons (.var 4) .nil)) x_reads_2 (.lst .nil))) (.cons (.ite (.or (.not (.cal "_is_row" (.cons (.var 4) .nil))) (.or (.cmp .Lt (.lenS (.var 2)) (.bi .len (.cons (.var 4) .nil))) (.not (.cal "_is_order" (.cons (.var 3) (.cons (.var 4) (.cons (.var 4) .nil))))))) (.cons (.rai "Unfit" .no) .nil) .nil) (.cons (.ret (.bi .tuple (.cons x_reads_1 .nil))) .nil))))
def d_reads : Df := ⟨"reads", ["run", "weaving"], ["run", "weaving", "known", "puts", "row", "number"], c_reads, true⟩
def x_free_pairs_1 : CE := .comp (.nm 4) (.rng (.cons (.bin .Add (.var 1) (.int 1)) (.cons (.bi .len (.cons (.var 2) .nil)) .nil))) (.so (.not (.cal "_has_seen" (.cons (.var 2) (.cons (.var 4) (.cons (.var 1) .nil)))))) (.tup (.cons (.var 1) (.cons (.var 4) .nil))) [4]
def b_free_pairs_1 : CSs := (.cons (.drop (.met .extend (.var 3) (.cons x_free_pairs_1 .nil))) .nil)
def l_free_pairs_1 : CS := .frs (.nm 1) (.rng (.cons (.bi .len (.cons (.var 2) .nil)) .nil)) b_free_pairs_1
def c_free_pairs : CSs := (.cons (.asg (.tup (.cons (.nm 2) (.cons (.nm 3) .nil))) (.tup (.cons (.cal "_puts" (.cons (.var 0) .nil)) (.cons (.adopt (.lst .nil)) .nil)))) (.cons l_free_pairs_1 (.cons (.ret (.bi .tuple (.cons (.var 3) .nil))) .nil)))
def d_free_pairs : Df := ⟨"free_pairs", ["run"], ["run", "elder", "puts", "found", "later"], c_free_pairs, true⟩
def c_weaving_count : CSs := (.cons (.asg (.nm 1) (.cal "_puts" (.cons (.var 0) .nil))) (.cons (.ret (.idx (.cal "_ways" (.cons (.var 1) (.cons (.cal "_lanes" (.cons (.var 1) .nil)) .nil))) (.tup (.cons (.int 0) (.cons (.int 0) .nil))))) .nil))
def d_weaving_count : Df := ⟨"weaving_count", ["run"], ["run", "puts"], c_weaving_count, true⟩
def b_order_of_1 : CSs := (.cons (.ite (.cmp .Gt (.var 6) (.int 0)) (.cons (.drop (.met .append (.idx (.var 2) (.bin .Sub (.int 1) (.var 5))) (.cons (.var 4) .nil))) (.cons (.ite (.cmp .Eq (.var 5) (.var 1)) (.cons (.drop (.met .append (.var 3) (.cons (.var 4) .nil))) .nil) .nil) (.cons (.aug 4 .Add (.int 1)) .nil))) (.cons (.asg (.nm 7) (.met .pop0 (.idx (.var 2) (.var 5)) (.cons (.int 0) .nil))) (.cons (.ite (.cmp .Eq (.var 5) (.var 1)) (.cons (.drop (.met .append (.var 3) (.cons (.var 7) .nil))) .nil) .nil) .nil))) .nil)
def l_order_of_1 : CS := .frs (.tup (.cons (.nm 5) (.cons (.nm 6) .nil))) (.over (.var 0)) b_order_of_1
def c_order_of : CSs := (.cons (.par3 2 3 4 (.adopt (.lst (.cons (.adopt (.lst .nil)) (.cons (.adopt (.lst .nil)) .nil)))) (.adopt (.lst .nil)) (.int 0)) (.cons l_order_of_1 (.cons (.ret (.bi .tuple (.cons (.var 3) .nil))) .nil)))
def d_order_of : Df := ⟨"order_of", ["run", "side"], ["run", "side", "roads", "found", "number", "own", "letter", "taken"], c_order_of, true⟩
def c__law_box : CSs := (.cons (.asg (.nm 2) (.ife (.cmp .Lt (.var 1) (.bi .len (.cons (.var 0) .nil))) (.idx (.var 0) (.var 1)) (.int 0))) (.cons (.ret (.adopt (.lst (.cons (.bin .Mult (.bi .abs (.cons (.var 2) .nil)) (.bi .int (.cons (.cmp .GtE (.bi .abs (.cons (.var 2) .nil)) (.bin .Pow (.int 10) (.int 18))) .nil))) (.cons (.bin .Add (.bin .Add (.bin .Mod (.bi .int (.cons (.var 2) .nil)) (.int 2305843009213693951)) (.bin .Mult (.int 43441) (.var 1))) (.int 28460498)) (.cons (.int 0) .nil)))))) .nil))
def d__law_box : Df := ⟨"_law_box", ["script", "k"], ["script", "k", "cell"], c__law_box, false⟩
def c__law_take : CSs := (.cons (.ite (.cmp .Gt (.idx (.var 0) (.int 0)) (.int 0)) (.cons (.asg (.nm 5) (.bin .Mod (.bi .int (.cons (.idx (.var 0) (.int 0)) .nil)) (.var 1))) (.cons (.asg (.sub (.var 0) (.int 0)) (.bin .FloorDiv (.idx (.var 0) (.int 0)) (.var 1))) (.cons (.ret (.var 5)) .nil))) .nil) (.cons (.asg (.sub (.var 0) (.int 2)) (.bin .Add (.idx (.var 0) (.int 2)) (.int 1))) (.cons (.asg (.nm 2) (.bin .Mod (.bi .int (.cons (.bin .Mult (.bin .Add (.idx (.var 0) (.int 1)) (.bin .Mult (.int 48271) (.idx (.var 0) (.int 2)))) (.bin .Add (.int 39373) (.idx (.var 0) (.int 2)))) .nil)) (.int 2147483647))) (.cons (.asg (.nm 3) (.bin .Add (.bin .Mod (.bi .int (.cons (.var 2) .nil)) (.int 40009)) (.int 7))) (.cons (.asg (.nm 4) (.bin .Mod (.bi .int (.cons (.bin .Mult (.bin .Add (.bin .Add (.var 2) (.idx (.var 0) (.int 2))) (.bin .FloorDiv (.idx (.var 0) (.int 1)) (.int 1000003))) (.var 3)) .nil)) (.int 2147483629))) (.cons (.ret (.bin .Mod (.bi .int (.cons (.bin .FloorDiv (.bin .Mod (.bi .int (.cons (.bin .Add (.bin .Mult (.var 4) (.int 48271)) (.var 2)) .nil)) (.int 2147483587)) (.int 64)) .nil)) (.var 1))) .nil))))))
def d__law_take : Df := ⟨"_law_take", ["urn", "below"], ["urn", "below", "once", "far", "twice", "drawn"], c__law_take, true⟩
def b__law_cells_1 : CSs := (.cons (.asg (.nm 5) (.bin .Mod (.bi .int (.cons (.var 3) .nil)) (.bi .len (.cons (.var 2) .nil)))) (.cons (.asg (.sub (.var 2) (.var 5)) (.bin .Add (.idx (.var 2) (.var 5)) (.bin .Mult (.var 4) (.bin .Add (.var 3) (.int 2))))) .nil))
def l__law_cells_1 : CS := .frs (.tup (.cons (.nm 3) (.cons (.nm 4) .nil))) (.enm (.slc (.var 0) (.so (.var 1)) (.so (.int 63)))) b__law_cells_1
def c__law_cells : CSs := (.cons (.asg (.nm 2) (.adopt (.or (.bi .list (.cons (.slc (.var 0) .no (.so (.var 1))) .nil)) (.lst (.cons (.int 0) .nil))))) (.cons l__law_cells_1 (.cons (.ret (.var 2)) .nil)))
def d__law_cells : Df := ⟨"_law_cells", ["script", "many"], ["script", "many", "cells", "k", "cell", "at"], c__law_cells, true⟩
def x__law_same_1 : CE := .comp (.tup (.cons (.nm 2) (.cons (.nm 3) .nil))) (.zip (.var 0) (.var 1)) .no (.cal "_law_same" (.cons (.var 2) (.cons (.var 3) .nil))) [2, 3]
def c__law_same : CSs := (.cons (.ite (.isi (.var 1) [.list, .tuple]) (.cons (.ite (.or (.cmp .NotEq (.isi (.var 0) [.list]) (.isi (.var 1) [.list])) (.cmp .NotEq (.isi (.var 0) [.tuple]) (.isi (.var 1) [.tuple]))) (.cons (.ret (.bl false)) .nil) .nil) (.cons (.ret (.and (.cmp .Eq (.bi .len (.cons (.var 0) .nil)) (.bi .len (.cons (.var 1) .nil))) (.bi .all (.cons x__law_same_1 .nil)))) .nil)) .nil) (.cons (.ite (.or (.isC (.var 1) .non false) (.isi (.var 1) [.bool, .str])) (.cons (.ret (.and (.cmp .Eq (.var 0) (.var 1)) (.and (.cmp .Eq (.isi (.var 0) [.str]) (.isi (.var 1) [.str])) (.and (.cmp .Eq (.isi (.var 0) [.bool]) (.isi (.var 1) [.bool])) (.cmp .Eq (.isC (.var 0) .non false) (.isC (.var 1) .non false)))))) .nil) .nil) (.cons (.ret (.and (.isi (.var 0) [.int]) (.and (.not (.isi (.var 0) [.bool])) (.cmp .Eq (.var 0) (.var 1))))) .nil)))
def d__law_same : Df := ⟨"_law_same", ["got", "goal"], ["got", "goal", "mine", "own"], c__law_same, true⟩
def b__law_run_1 : CSs := (.cons (.par 6 7 (.cal "_law_take" (.cons (.var 0) (.cons (.int 2) .nil))) (.cal "_law_take" (.cons (.var 0) (.cons (.int 5) .nil)))) (.cons (.ite (.and (.cmp .Lt (.var 7) (.int 2)) (.cmp .Gt (.idx (.var 5) (.var 6)) (.int 0))) (.cons (.asg (.tup (.cons (.nm 4) (.cons (.sub (.var 5) (.var 6)) .nil))) (.tup (.cons (.bin .Add (.var 4) (.tup (.cons (.tup (.cons (.var 6) (.cons (.int 0) .nil))) .nil))) (.cons (.bin .Sub (.idx (.var 5) (.var 6)) (.int 1)) .nil)))) .nil) (.cons (.asg (.tup (.cons (.nm 4) (.cons (.sub (.var 5) (.bin .Sub (.int 1) (.var 6))) .nil))) (.tup (.cons (.bin .Add (.var 4) (.tup (.cons (.tup (.cons (.var 6) (.cons (.bin .Add (.int 1) (.cal "_law_take" (.cons (.var 0) (.cons (.var 1) .nil)))) .nil))) .nil))) (.cons (.bin .Add (.idx (.var 5) (.bin .Sub (.int 1) (.var 6))) (.int 1)) .nil)))) .nil)) .nil))
def l__law_run_1 : CS := .frs (.nm 3) (.rng (.cons (.cal "_law_take" (.cons (.var 0) (.cons (.bin .Add (.var 2) (.int 1)) .nil))) .nil)) b__law_run_1
def c__law_run : CSs := (.cons (.par 4 5 (.tup .nil) (.adopt (.lst (.cons (.int 0) (.cons (.int 0) .nil))))) (.cons l__law_run_1 (.cons (.ret (.var 4)) .nil)))
def d__law_run : Df := ⟨"_law_run", ["urn", "letters", "most"], ["urn", "letters", "most", "lap", "run", "road", "side", "kind"], c__law_run, true⟩
def b__law_track_1 : CSs := (.cons (.ite (.cmp .Gt (.var 6) (.int 0)) (.cons (.drop (.met .append (.var 2) (.cons (.bi .tuple (.cons (.bi .sorted (.cons (.idx (.var 3) (.var 5)) .nil)) .nil)) .nil))) (.cons (.drop (.met .append (.idx (.var 3) (.var 5)) (.cons (.bi .len (.cons (.var 1) .nil)) .nil))) (.cons (.drop (.met .append (.idx (.var 4) (.bin .Sub (.int 1) (.var 5))) (.cons (.bi .len (.cons (.var 1) .nil)) .nil))) (.cons (.drop (.met .append (.var 1) (.cons (.tup (.cons (.var 5) (.cons (.var 6) .nil))) .nil))) .nil)))) (.cons (.drop (.met .append (.idx (.var 3) (.var 5)) (.cons (.met .pop0 (.idx (.var 4) (.var 5)) (.cons (.int 0) .nil)) .nil))) .nil)) .nil)
def l__law_track_1 : CS := .frs (.tup (.cons (.nm 5) (.cons (.nm 6) .nil))) (.over (.var 0)) b__law_track_1
def c__law_track : CSs := (.cons (.asg (.tup (.cons (.nm 1) (.cons (.nm 2) (.cons (.nm 3) (.cons (.nm 4) .nil))))) (.tup (.cons (.adopt (.lst .nil)) (.cons (.adopt (.lst .nil)) (.cons (.tup (.cons (.adopt (.lst .nil)) (.cons (.adopt (.lst .nil)) .nil))) (.cons (.tup (.cons (.adopt (.lst .nil)) (.cons (.adopt (.lst .nil)) .nil))) .nil)))))) (.cons l__law_track_1 (.cons (.ret (.tup (.cons (.var 1) (.cons (.var 2) (.cons (.var 3) (.cons (.var 4) .nil)))))) .nil)))
def d__law_track : Df := ⟨"_law_track", ["run"], ["run", "puts", "saw", "knows", "road", "side", "letter"], c__law_track, true⟩
def c__law_settled : CSs := (.cons (.asg (.nm 1) (.idx (.cal "_law_track" (.cons (.var 0) .nil)) (.int 3))) (.cons (.ret (.bin .Add (.bin .Add (.var 0) (.bin .Mult (.tup (.cons (.tup (.cons (.int 0) (.cons (.int 0) .nil))) .nil)) (.bi .len (.cons (.idx (.var 1) (.int 0)) .nil)))) (.bin .Mult (.tup (.cons (.tup (.cons (.int 1) (.cons (.int 0) .nil))) .nil)) (.bi .len (.cons (.idx (.var 1) (.int 1)) .nil))))) .nil))
def d__law_settled : Df := ⟨"_law_settled", ["run"], ["run", "road"], c__law_settled, true⟩
def x__law_reads_1 : CE := .comp (.nm 2) (.over (.var 1)) .no (.idx (.idx (.var 0) (.var 2)) (.int 1)) [2]
def c__law_reads : CSs := (.cons (.ret (.bi .tuple (.cons x__law_reads_1 .nil))) .nil)
def d__law_reads : Df := ⟨"_law_reads", ["puts", "weaving"], ["puts", "weaving", "k"], c__law_reads, true⟩
def c__law_heard : CSs := (.cons (.try1 (.cons (.ret (.cal "seen" (.cons (.var 0) (.cons (.var 1) .nil)))) .nil) ⟨["NoPlace"], some 2, .retP "no place" "place"⟩) .nil)
def d__law_heard : Df := ⟨"_law_heard", ["run", "number"], ["run", "number", "caught"], c__law_heard, true⟩
def x__law_told_1 : CE := .comp (.nm 6) (.over (.var 5)) .no (.cmp .NotEq (.var 6) (.lst .nil)) [6]
def x__law_told_2 : CE := .comp (.nm 6) (.over (.var 4)) .no (.bi .tuple (.cons (.bi .sorted (.cons (.var 6) .nil)) .nil)) [6]
def x__law_told_3 : CE := .comp (.nm 6) (.over (.var 4)) .no (.bi .tuple (.cons (.var 6) .nil)) [6]
def x__law_told_4 : CE := .comp (.nm 7) (.over (.var 6)) .no (.idx (.idx (.var 2) (.var 7)) (.int 1)) [7]
def x__law_told_5 : CE := .comp (.nm 6) (.over (.var 5)) .no (.bi .tuple (.cons x__law_told_4 .nil)) [6]
def c__law_told : CSs := (.cons (.asg (.tup (.cons (.nm 2) (.cons (.nm 3) (.cons (.nm 4) (.cons (.nm 5) .nil))))) (.cal "_law_track" (.cons (.var 0) .nil))) (.cons (.asg (.nm 1) (.bi .tuple (.cons x__law_told_5 .nil))) (.cons (.ret (.lst (.cons (.var 1) (.cons (.cmp .Eq (.var 5) (.tup (.cons (.lst .nil) (.cons (.lst .nil) .nil)))) (.cons (.bi .tuple (.cons (.var 2) .nil)) (.cons (.var 3) (.cons x__law_told_3 (.cons x__law_told_2 (.cons x__law_told_1 .nil))))))))) .nil)))
def d__law_told : Df := ⟨"_law_told", ["run"], ["run", "letters", "puts", "before", "order", "road", "own", "k"], c__law_told, true⟩
def x_law_1 : CE := .comp (.nm 18) (.over (.var 10)) (.so (.isC (.cal "is_run" (.cons (.var 18) .nil)) (.bl false) true)) (.var 18) [18]
def b_law_1 : CSs := (.cons (.ite (.or (.cmp .NotEq (.cal "is_run" (.cons (.bin .Add (.var 2) (.tup (.cons (.tup (.cons (.var 7) (.cons (.int 0) .nil))) .nil))) .nil)) (.idx (.var 17) (.var 7))) (.isC (.cal "is_run" (.cons (.bin .Add (.var 2) (.tup (.cons (.tup (.cons (.var 7) (.cons (.int 5) .nil))) .nil))) .nil)) (.bl true) true)) (.cons (.ret (.bl false)) .nil) .nil) .nil)
def l_law_1 : CS := .frs (.nm 7) (.over (.tup (.cons (.int 0) (.cons (.int 1) .nil)))) b_law_1
def x_law_2 : CE := .comp (.tup (.cons (.nm 7) (.cons (.nm 22) .nil))) (.over (.var 2)) .no (.tup (.cons (.bin .Sub (.int 1) (.var 7)) (.cons (.var 22) .nil))) [7, 22]
def b_law_2 : CSs := (.cons (.asg (.nm 18) (.cal "order_of" (.cons (.var 2) (.cons (.var 7) .nil)))) (.cons (.ite (.or (.isC (.cal "is_weaving_of" (.cons (.var 2) (.cons (.idx (.var 16) (.var 7)) (.cons (.var 18) .nil)))) (.bl true) true) (.or (.isC (.cal "is_weaving" (.cons (.var 6) (.cons (.cal "order_of" (.cons (.var 6) (.cons (.var 7) .nil))) .nil))) (.bl true) true) (.cmp .NotEq (.cal "reads" (.cons (.var 2) (.cons (.var 18) .nil))) (.cal "_law_reads" (.cons (.var 13) (.cons (.var 18) .nil)))))) (.cons (.ret (.bl false)) .nil) .nil) .nil))
def l_law_2 : CS := .frs (.nm 7) (.over (.tup (.cons (.int 0) (.cons (.int 1) .nil)))) b_law_2
def x_law_3 : CE := .comp (.nm 3) (.rng (.cons (.bi .len (.cons (.var 13) .nil)) .nil)) .no (.cal "seen" (.cons (.var 6) (.cons (.var 3) .nil))) [3]
def x_law_4 : CE := .comp (.nm 21) (.rng (.cons (.bin .Add (.var 5) (.int 1)) (.cons (.bi .len (.cons (.var 13) .nil)) .nil))) (.so (.cmp .NotIn (.var 5) (.idx (.var 14) (.var 21)))) (.tup (.cons (.var 5) (.cons (.var 21) .nil))) [21]
def b_law_3 : CSs := (.cons (.asg (.nm 4) (.bin .Add (.var 4) x_law_4)) .nil)
def l_law_3 : CS := .frs (.nm 5) (.rng (.cons (.bi .len (.cons (.var 13) .nil)) .nil)) b_law_3
def x_law_5 : CE := .comp (.nm 20) (.over (.idx (.var 14) (.var 3))) (.so (.cmp .Eq (.idx (.idx (.var 13) (.var 20)) (.int 0)) (.var 7))) (.var 20) [20]
def x_law_6 : CE := .comp (.nm 20) (.rng (.cons (.bi .len (.cons (.var 13) .nil)) .nil)) (.so (.cmp .Eq (.idx (.idx (.var 13) (.var 20)) (.int 0)) (.var 7))) (.var 20) [20]
def b_law_5 : CSs := (.cons (.asg (.nm 18) x_law_6) (.cons (.asg (.nm 19) x_law_5) (.cons (.ite (.cmp .NotEq (.var 19) (.slc (.var 18) .no (.so (.bi .len (.cons (.var 19) .nil))))) (.cons (.ret (.bl false)) .nil) .nil) .nil)))
def l_law_5 : CS := .frs (.nm 7) (.over (.tup (.cons (.int 0) (.cons (.int 1) .nil)))) b_law_5
def x_law_7 : CE := .comp (.nm 8) (.over (.idx (.var 14) (.var 20))) (.so (.cmp .NotIn (.var 8) (.idx (.var 14) (.var 3)))) (.var 8) [8]
def x_law_8 : CE := .comp (.nm 20) (.over (.idx (.var 14) (.var 3))) (.so (.cmp .NotEq x_law_7 (.lst .nil))) (.var 20) [20]
def b_law_4 : CSs := (.cons (.ite (.or (.cmp .NotEq (.cal "seen" (.cons (.var 2) (.cons (.var 3) .nil))) (.idx (.var 14) (.var 3))) (.cmp .NotEq x_law_8 (.lst .nil))) (.cons (.ret (.bl false)) .nil) .nil) (.cons l_law_5 .nil))
def l_law_4 : CS := .frs (.nm 3) (.rng (.cons (.bi .len (.cons (.var 13) .nil)) .nil)) b_law_4
def c_law : CSs := (.cons (.asg (.nm 1) (.cal "_law_box" (.cons (.cal "_law_cells" (.cons (.var 0) (.cons (.int 1) .nil))) (.cons (.int 0) .nil)))) (.cons (.asg (.nm 2) (.cal "_law_run" (.cons (.var 1) (.cons (.int 3) (.cons (.int 14) .nil))))) (.cons (.asg (.tup (.cons (.nm 11) (.cons (.nm 12) (.cons (.nm 13) (.cons (.nm 14) (.cons (.nm 15) (.cons (.nm 16) (.cons (.nm 17) .nil)))))))) (.cal "_law_told" (.cons (.var 2) .nil))) (.cons (.ite (.not (.cal "_law_same" (.cons (.lst (.cons (.cal "is_run" (.cons (.var 2) .nil)) (.cons (.cal "roads" (.cons (.var 2) .nil)) (.cons (.cal "is_at_rest" (.cons (.var 2) .nil)) (.cons (.cal "puts_of" (.cons (.var 2) .nil)) (.cons (.lst (.cons (.cal "can_take" (.cons (.var 2) (.cons (.int 0) .nil))) (.cons (.cal "can_take" (.cons (.var 2) (.cons (.int 1) .nil))) .nil))) .nil)))))) (.cons (.lst (.cons (.bl true) (.cons (.var 11) (.cons (.var 12) (.cons (.var 13) (.cons (.var 17) .nil)))))) .nil)))) (.cons (.ret (.bl false)) .nil) .nil) (.cons (.ite (.or (.cmp .NotEq (.lst (.cons (.cal "order_of" (.cons (.var 2) (.cons (.int 0) .nil))) (.cons (.cal "order_of" (.cons (.var 2) (.cons (.int 1) .nil))) .nil))) (.var 15)) (.cmp .NotEq (.lst (.cons (.cal "known" (.cons (.var 2) (.cons (.int 0) .nil))) (.cons (.cal "known" (.cons (.var 2) (.cons (.int 1) .nil))) .nil))) (.var 16))) (.cons (.ret (.bl false)) .nil) .nil) (.cons l_law_4 (.cons (.ite (.or (.cmp .NotEq (.cal "_law_heard" (.cons (.var 2) (.cons (.bi .len (.cons (.var 13) .nil)) .nil))) (.tup (.cons (.str "no place") (.cons (.bi .len (.cons (.var 13) .nil)) .nil)))) (.cmp .NotEq (.cal "_law_heard" (.cons (.var 2) (.cons (.neg (.int 1)) .nil))) (.tup (.cons (.str "no place") (.cons (.neg (.int 1)) .nil))))) (.cons (.ret (.bl false)) .nil) .nil) (.cons (.asg (.nm 4) (.lst .nil)) (.cons l_law_3 (.cons (.ite (.or (.cmp .NotEq (.cal "free_pairs" (.cons (.var 2) .nil)) (.bi .tuple (.cons (.var 4) .nil))) (.cmp .NotEq (.cmp .Eq (.cal "weaving_count" (.cons (.var 2) .nil)) (.int 1)) (.cmp .Eq (.var 4) (.lst .nil)))) (.cons (.ret (.bl false)) .nil) .nil) (.cons (.asg (.nm 6) (.cal "_law_settled" (.cons (.var 2) .nil))) (.cons (.ite (.or (.cmp .NotEq (.cal "settled" (.cons (.var 2) .nil)) (.var 6)) (.or (.isC (.cal "is_at_rest" (.cons (.var 6) .nil)) (.bl true) true) (.or (.cmp .NotEq (.cal "puts_of" (.cons (.var 6) .nil)) (.var 13)) (.or (.cmp .NotEq (.cal "known" (.cons (.var 6) (.cons (.int 0) .nil))) (.rngS .no (.bi .len (.cons (.var 13) .nil)) true)) (.cmp .NotEq (.cal "known" (.cons (.var 6) (.cons (.int 1) .nil))) (.rngS .no (.bi .len (.cons (.var 13) .nil)) true)))))) (.cons (.ret (.bl false)) .nil) .nil) (.cons (.ite (.or (.cmp .NotEq x_law_3 (.bi .list (.cons (.var 14) .nil))) (.cmp .NotEq (.cal "free_pairs" (.cons (.var 6) .nil)) (.bi .tuple (.cons (.var 4) .nil)))) (.cons (.ret (.bl false)) .nil) .nil) (.cons l_law_2 (.cons (.ite (.isC (.cal "is_weaving" (.cons (.var 2) (.cons (.rngS .no (.bi .len (.cons (.var 13) .nil)) true) .nil))) (.bl true) true) (.cons (.ret (.bl false)) .nil) .nil) (.cons (.asg (.nm 8) (.bi .tuple (.cons x_law_2 .nil))) (.cons (.asg (.nm 9) (.cal "_law_told" (.cons (.var 8) .nil))) (.cons (.ite (.or (.cmp .NotEq (.cal "exchanged" (.cons (.var 2) .nil)) (.var 8)) (.or (.cmp .NotEq (.cal "exchanged" (.cons (.var 8) .nil)) (.var 2)) (.or (.cmp .NotEq (.cal "roads" (.cons (.var 8) .nil)) (.rev (.var 11))) (.or (.cmp .NotEq (.cal "order_of" (.cons (.var 8) (.cons (.int 0) .nil))) (.idx (.var 15) (.int 1))) (.cmp .NotEq (.idx (.var 9) (.int 3)) (.var 14)))))) (.cons (.ret (.bl false)) .nil) .nil) (.cons l_law_1 (.cons (.asg (.nm 10) (.lst (.cons (.bin .Add (.var 2) (.tup (.cons (.tup (.cons (.int 2) (.cons (.int 1) .nil))) .nil))) (.cons (.bin .Add (.var 2) (.tup (.cons (.tup (.cons (.int 0) (.cons (.neg (.int 1)) .nil))) .nil))) (.cons (.bin .Add (.bi .list (.cons (.var 2) .nil)) (.lst (.cons (.tup (.cons (.int 0) (.cons (.int 1) .nil))) .nil))) (.cons (.bin .Add (.var 2) (.tup (.cons (.tup (.cons (.int 0) (.cons (.bl true) .nil))) .nil))) (.cons (.bin .Add (.var 2) (.tup (.cons (.lst (.cons (.int 0) (.cons (.int 1) .nil))) .nil))) (.cons (.bin .Add (.var 2) (.tup (.cons (.tup (.cons (.int 0) .nil)) .nil))) .nil)))))))) (.cons (.ret (.and (.cmp .Eq x_law_1 (.lst .nil)) (.isC (.cal "is_run" (.cons (.slc (.var 2) .no (.so (.cal "_law_take" (.cons (.var 1) (.cons (.bin .Add (.bi .len (.cons (.var 2) .nil)) (.int 1)) .nil))))) .nil)) (.bl true) false))) .nil)))))))))))))))))))))
def d_law : Df := ⟨"law", ["script"], ["script", "urn", "run", "number", "free", "i", "quiet", "side", "far", "told", "bent", "letters", "rest", "puts", "before", "order", "knows", "can", "own", "some", "at", "j", "letter"], c_law, true⟩
def T : List Ent := [⟨d_is_number, top 4⟩, ⟨d_tuple_of, top 5⟩, ⟨d_is_tuple_of, top 6⟩, ⟨d_is_event, top 8⟩, ⟨d_is_run, top 9⟩, ⟨d_numbers_along, top 10⟩, ⟨d_numbers_known, top 11⟩, ⟨d_puts_of, top 12⟩, ⟨d_roads, top 13⟩, ⟨d_is_at_rest, top 14⟩, ⟨d_can_take, top 15⟩, ⟨d_seen_by, top 16⟩, ⟨d_seen, top 17⟩, ⟨d_known, top 18⟩, ⟨d_settled, top 19⟩, ⟨d_exchanged, top 20⟩, ⟨d__puts, top 22⟩, ⟨d__lanes, top 23⟩, ⟨d__next, top 24⟩, ⟨d__gone, top 25⟩, ⟨d__ways, top 26⟩, ⟨d__has_seen, top 27⟩, ⟨d__is_order, top 28⟩, ⟨d__is_row, top 29⟩, ⟨d_is_weaving, top 30⟩, ⟨d_is_weaving_of, top 31⟩, ⟨d_reads, top 32⟩, ⟨d_free_pairs, top 33⟩, ⟨d_weaving_count, top 34⟩, ⟨d_order_of, top 35⟩, ⟨d__law_box, top 37⟩, ⟨d__law_take, top 38⟩, ⟨d__law_cells, top 39⟩, ⟨d__law_same, top 40⟩, ⟨d__law_run, top 41⟩, ⟨d__law_track, top 42⟩, ⟨d__law_settled, top 43⟩, ⟨d__law_reads, top 44⟩, ⟨d__law_heard, top 45⟩, ⟨d__law_told, top 46⟩, ⟨d_law, top 47⟩]
def TT : List Df := [d_is_number, d_tuple_of, d_is_tuple_of, d_is_event, d_is_run, d_numbers_along, d_numbers_known, d_puts_of, d_roads, d_is_at_rest, d_can_take, d_seen_by, d_seen, d_known, d_settled, d_exchanged, d__puts, d__lanes, d__next, d__gone, d__ways, d__has_seen, d__is_order, d__is_row, d_is_weaving, d_is_weaving_of, d_reads, d_free_pairs, d_weaving_count, d_order_of, d__law_box, d__law_take, d__law_cells, d__law_same, d__law_run, d__law_track, d__law_settled, d__law_reads, d__law_heard, d__law_told, d_law]
theorem dfs_eq : dfs T = TT := rfl
theorem at_is_number (k : Nat) (ds : List D) : calls TT (k + 1) "is_number" ds = d_is_number.run (calls TT k) ds := rfl
theorem at_tuple_of (k : Nat) (ds : List D) : calls TT (k + 1) "tuple_of" ds = d_tuple_of.run (calls TT k) ds := rfl
theorem at_is_tuple_of (k : Nat) (ds : List D) : calls TT (k + 1) "is_tuple_of" ds = d_is_tuple_of.run (calls TT k) ds := rfl
theorem at_is_event (k : Nat) (ds : List D) : calls TT (k + 1) "is_event" ds = d_is_event.run (calls TT k) ds := rfl
theorem at_is_run (k : Nat) (ds : List D) : calls TT (k + 1) "is_run" ds = d_is_run.run (calls TT k) ds := rfl
theorem at_numbers_along (k : Nat) (ds : List D) : calls TT (k + 1) "numbers_along" ds = d_numbers_along.run (calls TT k) ds := rfl
theorem at_numbers_known (k : Nat) (ds : List D) : calls TT (k + 1) "numbers_known" ds = d_numbers_known.run (calls TT k) ds := rfl
theorem at_puts_of (k : Nat) (ds : List D) : calls TT (k + 1) "puts_of" ds = d_puts_of.run (calls TT k) ds := rfl
theorem at_roads (k : Nat) (ds : List D) : calls TT (k + 1) "roads" ds = d_roads.run (calls TT k) ds := rfl
theorem at_is_at_rest (k : Nat) (ds : List D) : calls TT (k + 1) "is_at_rest" ds = d_is_at_rest.run (calls TT k) ds := rfl
theorem at_can_take (k : Nat) (ds : List D) : calls TT (k + 1) "can_take" ds = d_can_take.run (calls TT k) ds := rfl
theorem at_seen_by (k : Nat) (ds : List D) : calls TT (k + 1) "seen_by" ds = d_seen_by.run (calls TT k) ds := rfl
theorem at_seen (k : Nat) (ds : List D) : calls TT (k + 1) "seen" ds = d_seen.run (calls TT k) ds := rfl
theorem at_known (k : Nat) (ds : List D) : calls TT (k + 1) "known" ds = d_known.run (calls TT k) ds := rfl
theorem at_settled (k : Nat) (ds : List D) : calls TT (k + 1) "settled" ds = d_settled.run (calls TT k) ds := rfl
theorem at_exchanged (k : Nat) (ds : List D) : calls TT (k + 1) "exchanged" ds = d_exchanged.run (calls TT k) ds := rfl
theorem at__puts (k : Nat) (ds : List D) : calls TT (k + 1) "_puts" ds = d__puts.run (calls TT k) ds := rfl
theorem at__lanes (k : Nat) (ds : List D) : calls TT (k + 1) "_lanes" ds = d__lanes.run (calls TT k) ds := rfl
theorem at__next (k : Nat) (ds : List D) : calls TT (k + 1) "_next" ds = d__next.run (calls TT k) ds := rfl
theorem at__gone (k : Nat) (ds : List D) : calls TT (k + 1) "_gone" ds = d__gone.run (calls TT k) ds := rfl
theorem at__ways (k : Nat) (ds : List D) : calls TT (k + 1) "_ways" ds = d__ways.run (calls TT k) ds := rfl
theorem at__has_seen (k : Nat) (ds : List D) : calls TT (k + 1) "_has_seen" ds = d__has_seen.run (calls TT k) ds := rfl
theorem at__is_order (k : Nat) (ds : List D) : calls TT (k + 1) "_is_order" ds = d__is_order.run (calls TT k) ds := rfl
theorem at__is_row (k : Nat) (ds : List D) : calls TT (k + 1) "_is_row" ds = d__is_row.run (calls TT k) ds := rfl
theorem at_is_weaving (k : Nat) (ds : List D) : calls TT (k + 1) "is_weaving" ds = d_is_weaving.run (calls TT k) ds := rfl
theorem at_is_weaving_of (k : Nat) (ds : List D) : calls TT (k + 1) "is_weaving_of" ds = d_is_weaving_of.run (calls TT k) ds := rfl
theorem at_reads (k : Nat) (ds : List D) : calls TT (k + 1) "reads" ds = d_reads.run (calls TT k) ds := rfl
theorem at_free_pairs (k : Nat) (ds : List D) : calls TT (k + 1) "free_pairs" ds = d_free_pairs.run (calls TT k) ds := rfl
theorem at_weaving_count (k : Nat) (ds : List D) : calls TT (k + 1) "weaving_count" ds = d_weaving_count.run (calls TT k) ds := rfl
theorem at_order_of (k : Nat) (ds : List D) : calls TT (k + 1) "order_of" ds = d_order_of.run (calls TT k) ds := rfl
theorem at__law_box (k : Nat) (ds : List D) : calls TT (k + 1) "_law_box" ds = d__law_box.run (calls TT k) ds := rfl
theorem at__law_take (k : Nat) (ds : List D) : calls TT (k + 1) "_law_take" ds = d__law_take.run (calls TT k) ds := rfl
theorem at__law_cells (k : Nat) (ds : List D) : calls TT (k + 1) "_law_cells" ds = d__law_cells.run (calls TT k) ds := rfl
theorem at__law_same (k : Nat) (ds : List D) : calls TT (k + 1) "_law_same" ds = d__law_same.run (calls TT k) ds := rfl
theorem at__law_run (k : Nat) (ds : List D) : calls TT (k + 1) "_law_run" ds = d__law_run.run (calls TT k) ds := rfl
theorem at__law_track (k : Nat) (ds : List D) : calls TT (k + 1) "_law_track" ds = d__law_track.run (calls TT k) ds := rfl
theorem at__law_settled (k : Nat) (ds : List D) : calls TT (k + 1) "_law_settled" ds = d__law_settled.run (calls TT k) ds := rfl
theorem at__law_reads (k : Nat) (ds : List D) : calls TT (k + 1) "_law_reads" ds = d__law_reads.run (calls TT k) ds := rfl
theorem at__law_heard (k : Nat) (ds : List D) : calls TT (k + 1) "_law_heard" ds = d__law_heard.run (calls TT k) ds := rfl
theorem at__law_told (k : Nat) (ds : List D) : calls TT (k + 1) "_law_told" ds = d__law_told.run (calls TT k) ds := rfl
theorem at_law (k : Nat) (ds : List D) : calls TT (k + 1) "law" ds = d_law.run (calls TT k) ds := rfl
end K02

namespace K02
open PySem Cl
open L2 (atI ixN)
/-- an event: the side, the letter (0: taken) -/
abbrev Ev := Bool × Nat
def sd (b : Bool) : Int := if b then 1 else 0
@[simp] theorem sd_t : sd true = 1 := rfl
@[simp] theorem sd_f : sd false = 0 := rfl
def encE (e : Ev) : D := .tup [.int (sd e.1), .int (e.2 : Nat)]
def enc (r : List Ev) : D := .tup (r.map encE)
@[simp] theorem atI0 {α : Type} (a : α) (l : List α) : atI (a :: l) 0 = some a := by simp [atI, ixN]
@[simp] theorem atI1 {α : Type} (a b : α) (l : List α) : atI (a :: b :: l) 1 = some b := by
  have : ((1 : Int) < ((a :: b :: l).length : Nat)) := by simp only [List.length_cons]; omega
  simp only [atI, ixN, if_pos (show (0 : Int) ≤ 1 by decide), if_pos this]
  rfl
@[simp] theorem ixN0 (n : Nat) : ixN (n + 1) 0 = some 0 := by simp [ixN]
@[simp] theorem ixN1 (n : Nat) : ixN (n + 1 + 1) 1 = some 1 := by simp [ixN]; omega
theorem noL_enc (r : List Ev) : noL (enc r) = true := noLs_map (fun e => rfl) r
theorem plain_enc (r : List Ev) : plainD 64 (enc r) = true := plainDs_map (n := 63) (fun e => rfl) r
theorem is_number_ok {k : Nat} {st : Store} (i : Int) : calls TT (k + 1) "is_number" [.int i] st = some (.ok (.bl true), st) := by
  rw [at_is_number]
  simp [d_is_number, c_is_number]
  exact fin_same rfl
theorem gone_ok {k : Nat} {st : Store} (puts : List D) (x y n : Int) (s : Int) (r : List D) (hp : atI puts n = some (.tup (.int s :: r))) :
    calls TT (k + 1) "_gone" [.tup puts, .tup [.int x, .int y], .int n] st = some (.ok (if s = 0 then .tup [.int (x + 1), .int y] else .tup [.int x, .int (y + 1)]), st) := by
  rw [at__gone]
  by_cases h : s = 0 <;> simp [d__gone, c__gone, hp, h] <;> exact fin_same rfl
/-- puts_of -/
theorem x_puts_of_1_ok {cf : CF} {st : Store} {a b : Option D} (r : List Ev) (hr : r.length ≤ 100000) : (ev cf x_puts_of_1 [some (enc r), a, b]).x st = some (.ok (.f ((r.filter fun e => decide (0 < e.2)).map encE)), st) := by
  rw [comp_ok (x := x_puts_of_1) (l := r) (f := encE) (src := .fix (r.map encE)) (gg := fun e => if 0 < e.2 then some (encE e) else none) rfl (by simp [enc]) rfl rfl hr (fun e _ => ?_)]
  · congr 4
    induction r with
    | nil => rfl
    | cons e r ih =>
      by_cases h : 0 < e.2 <;> simp [List.filterMap_cons, List.filter_cons, h, ih (by simp at hr; omega)]
  · by_cases h : 0 < e.2 <;> simp [encE, h]
theorem puts_of_ok {k : Nat} {st : Store} (r : List Ev) (hr : r.length ≤ 100000) : calls TT (k + 1) "puts_of" [enc r] st = some (.ok (enc (r.filter fun e => decide (0 < e.2))), st) := by
  rw [at_puts_of]
  simp [d_puts_of, c_puts_of, x_puts_of_1_ok r hr]
  exact fin_same (noL_enc _)
/-! ### track: what stands behind a run -/
structure S where
  puts : List Ev := []
  saw : List (List Nat) := []
  nums : List Nat := []
  k0 : List Nat := []
  k1 : List Nat := []
  r0 : List Nat := []
  r1 : List Nat := []
def S.kn (s : S) (b : Bool) : List Nat := if b then s.k1 else s.k0
def S.rd (s : S) (b : Bool) : List Nat := if b then s.r1 else s.r0
def S.know (s : S) (b : Bool) (n : Nat) : S := if b then { s with k1 := s.k1 ++ [n] } else { s with k0 := s.k0 ++ [n] }
def S.send (s : S) (b : Bool) (n : Nat) : S := if b then { s with r1 := s.r1 ++ [n] } else { s with r0 := s.r0 ++ [n] }
def S.setR (s : S) (b : Bool) (l : List Nat) : S := if b then { s with r1 := l } else { s with r0 := l }
def nD (n : Nat) : D := .int (n : Nat)
def lD (l : List Nat) : List D := l.map nD
/-- ints, rising -/
def srtN (l : List Nat) : List Nat := (srtI (l.map Int.ofNat)).map Int.toNat
def S.step (s : S) (e : Ev) : S :=
  if 0 < e.2 then
    let n := s.puts.length
    let t := ({ s with saw := s.saw ++ [srtN (s.kn e.1)], nums := s.nums ++ [n] }).know e.1 n
    { t.send (!e.1) n with puts := s.puts ++ [e] }
  else match s.rd e.1 with
    | x :: l => ({ s with nums := s.nums ++ [x] }.know e.1 x).setR e.1 l
    | [] => s
def tr (r : List Ev) : S := r.foldl S.step {}
/-- every take finds something -/
def okE (s : S) (e : Ev) : Prop := 0 < e.2 ∨ s.rd e.1 ≠ []
def Ok : List Ev → S → Prop
  | [], _ => True
  | e :: r, s => okE s e ∧ Ok r (s.step e)
end K02

namespace K02
open PySem Cl
open L2 (atI ixN)
section
variable (st t : Store) (i : Nat) (x : O)
@[simp] theorem get_app0 : (st ++ t)[st.length]? = t[0]? := by rw [List.getElem?_append_right (Nat.le_refl _), Nat.sub_self]
@[simp] theorem get_app : (st ++ t)[st.length + i]? = t[i]? := by rw [List.getElem?_append_right (by omega)]; congr 1; omega
@[simp] theorem set_app0 : (st ++ t).set st.length x = st ++ t.set 0 x := by rw [List.set_append_right _ _ (Nat.le_refl _), Nat.sub_self]
@[simp] theorem set_app : (st ++ t).set (st.length + i) x = st ++ t.set i x := by rw [List.set_append_right _ _ (by omega)]; congr 2; omega
end
@[simp] theorem nlt_add (n i : Nat) : (n + i < n) = False := by simp
@[simp] theorem lD_len (l : List Nat) : (lD l).length = l.length := by simp [lD]
theorem lD_snoc (l : List Nat) (n : Nat) : lD l ++ [.int (n : Nat)] = lD (l ++ [n]) := by simp [lD, nD]
def InvO (run : D) (side : Bool) (st0 : Store) (s : S) (env : Cl.Env) (st : Store) : Prop :=
  ∃ a b c, env = [some run, some (.int (sd side)), some (.loc (st0.length + 2)), some (.loc (st0.length + 3)), some (.int (s.puts.length : Nat)), a, b, c] ∧ st = st0 ++ [.lst (lD s.r0), .lst (lD s.r1), .lst [.loc st0.length, .loc (st0.length + 1)], .lst (lD (s.kn side))]
theorem order_turn {cf : CF} {run : D} {side : Bool} {st0 : Store} (s : S) (e : Ev) (env : Cl.Env) (st : Store) (hl : s.r0.length ≤ 1000 ∧ s.r1.length ≤ 1000 ∧ s.k0.length ≤ 1000 ∧ s.k1.length ≤ 1000) (hok : okE s e) (h : InvO run side st0 s env st) :
    ∃ env' st', turnS cf (.tup (.cons (.nm 5) (.cons (.nm 6) .nil))) b_order_of_1 (encE e) env st = some (.nx env' st') ∧ InvO run side st0 (s.step e) env' st' := by
  obtain ⟨a, b, c, rfl, rfl⟩ := h
  obtain ⟨own, l⟩ := e
  obtain ⟨l0, l1, l2, l3⟩ := hl
  have m0 : s.r0.length ≤ 100000 := by omega
  have m1 : s.r1.length ≤ 100000 := by omega
  have m2 : s.k0.length ≤ 100000 := by omega
  have m3 : s.k1.length ≤ 100000 := by omega
  by_cases hp : 0 < l
  · cases own <;> cases side <;> simp [b_order_of_1, encE, hp, S.step, m0, m1, m2, m3, S.kn, InvO, S.know, S.send, lD_snoc]
  · have hl0 : l = 0 := by omega
    subst hl0
    have hr : s.rd own ≠ [] := hok.resolve_left (by simp)
    cases own
    · obtain ⟨x, r, hx⟩ := List.exists_cons_of_ne_nil (show s.r0 ≠ [] from hr)
      cases side <;> simp [b_order_of_1, encE, hp, S.step, m0, m1, m2, m3, S.kn, S.rd, hx, InvO, S.know, S.send, S.setR, lD_snoc, lD, nD]
    · obtain ⟨x, r, hx⟩ := List.exists_cons_of_ne_nil (show s.r1 ≠ [] from hr)
      cases side <;> simp [b_order_of_1, encE, hp, S.step, m0, m1, m2, m3, S.kn, S.rd, hx, InvO, S.know, S.send, S.setR, lD_snoc, lD, nD]
/-- a run that goes on well, and is not long -/
def Fit (l : List Ev) (s : S) : Prop := Ok l s ∧ s.r0.length + l.length ≤ 1000 ∧ s.r1.length + l.length ≤ 1000 ∧ s.k0.length + l.length ≤ 1000 ∧ s.k1.length + l.length ≤ 1000 ∧ s.puts.length + l.length ≤ 1000 ∧ s.nums.length + l.length ≤ 1000 ∧ s.saw.length + l.length ≤ 1000
theorem Fit.step {e : Ev} {l : List Ev} {s : S} (h : Fit (e :: l) s) : Fit l (s.step e) := by
  obtain ⟨⟨h1, h2⟩, h3, h4, h5, h6, h7, h8, h9⟩ := h
  refine ⟨h2, ?_⟩
  rw [List.length_cons] at h3 h4 h5 h6 h7 h8 h9
  obtain ⟨own, n⟩ := e
  by_cases hp : 0 < n
  · cases own <;> simp [S.step, hp, S.know, S.send] <;> omega
  · have hr : s.rd own ≠ [] := h1.resolve_left hp
    cases own
    · obtain ⟨x, r, hx⟩ := List.exists_cons_of_ne_nil (show s.r0 ≠ [] from hr)
      simp [S.step, hp, S.rd, hx, S.know, S.setR] at *
      omega
    · obtain ⟨x, r, hx⟩ := List.exists_cons_of_ne_nil (show s.r1 ≠ [] from hr)
      simp [S.step, hp, S.rd, hx, S.know, S.setR] at *
      omega
theorem Fit.lens {e : Ev} {l : List Ev} {s : S} (h : Fit (e :: l) s) : s.r0.length ≤ 1000 ∧ s.r1.length ≤ 1000 ∧ s.k0.length ≤ 1000 ∧ s.k1.length ≤ 1000 := by
  obtain ⟨_, h3, h4, h5, h6, h7, h8, h9⟩ := h
  omega
theorem evI_over {cf : CF} {env : Cl.Env} {st : Store} {i : Nat} {xs : List D} (h : env[i]? = some (some (.tup xs))) : evI cf (.over (.var i)) env st = some (.ok (.fix xs), st) := by
  simp [h]
theorem noL_lD (l : List Nat) : noLs (lD l) = true := noLs_map (fun _ => rfl) l
theorem order_of_ok {k : Nat} {st : Store} (r : List Ev) (side : Bool) (hr : Fit r {}) : calls TT (k + 1) "order_of" [enc r, .int (sd side)] st = some (.ok (.tup (lD ((tr r).kn side))), st) := by
  rw [at_order_of]
  obtain ⟨env', st', e, a, b, c, rfl, rfl⟩ := frs_ok (cf := calls TT k) (s := l_order_of_1) (l := r) (f := encE) (src := .fix (r.map encE)) (env := [some (enc r), some (.int (sd side)), some (.loc (st.length + 2)), some (.loc (st.length + 3)), some (.int 0), none, none, none]) (st := st ++ [.lst [], .lst [], .lst [.loc st.length, .loc (st.length + 1)], .lst []])
    Fit (InvO (enc r) side st) S.step {} rfl (evI_over rfl) rfl (fun _ _ _ _ => rfl) hr ⟨none, none, none, rfl, by cases side <;> rfl⟩ (fun s e l env st' p i => by
      obtain ⟨env', st2, e1, i1⟩ := order_turn (cf := calls TT k) s e env st' p.lens p.1.1 i
      exact ⟨env', st2, .inl e1, i1, p.step⟩)
  simp [d_order_of, c_order_of]
  rw [e]
  simp
  exact fin_app (noL_lD _)
end K02

namespace K02
open PySem Cl
open L2 (atI ixN)
@[simp] theorem frzL_lD (f : Nat → Option D) (l : List Nat) : frzL f (lD l) = some (lD l) := frzL_noL f (noL_lD l)
def sawD (l : List (List Nat)) : List D := l.map fun x => .tup (lD x)
theorem noL_sawD (l : List (List Nat)) : noLs (sawD l) = true := noLs_map (f := fun x => D.tup (lD x)) (fun x => noL_lD x) l
@[simp] theorem frzL_sawD (f : Nat → Option D) (l : List (List Nat)) : frzL f (sawD l) = some (sawD l) := frzL_noL f (noL_sawD l)
theorem noL_encs (l : List Ev) : noLs (l.map encE) = true := noLs_map (fun _ => rfl) l
@[simp] theorem frzL_encs (f : Nat → Option D) (l : List Ev) : frzL f (l.map encE) = some (l.map encE) := frzL_noL f (noL_encs l)
@[simp] theorem sawD_len (l : List (List Nat)) : (sawD l).length = l.length := by simp [sawD]
theorem sawD_snoc (l : List (List Nat)) (x : List Nat) : sawD l ++ [.tup (lD x)] = sawD (l ++ [x]) := by simp [sawD]
@[simp] theorem ints_lD : ∀ l : List Nat, ints? (lD l) = some (l.map Int.ofNat)
  | [] => rfl
  | x :: l => by
    have ih := ints_lD l
    simp only [lD] at ih ⊢
    simp [ints?, nD, ih]
theorem srtI_nat (l : List Nat) : (srtI (l.map Int.ofNat)).map D.int = lD (srtN l) := by
  unfold srtN lD
  rw [List.map_map]
  apply List.map_congr_left
  intro i hi
  have : i ∈ l.map Int.ofNat := (srtI_perm _).mem_iff.mp hi
  obtain ⟨n, _, rfl⟩ := List.mem_map.mp this
  simp [nD]
/-! ### numbers_along -/
def InvN (run : D) (st0 : Store) (s : S) (env : Cl.Env) (st : Store) : Prop :=
  ∃ (p0 p1 : List Nat) (a b : Option D), env = [some run, some (.loc (st0.length + 4)), some (.loc (st0.length + 2)), some (.loc (st0.length + 3)), some (.int (s.puts.length : Nat)), a, b] ∧ p0.length + s.r0.length ≤ s.puts.length ∧ p1.length + s.r1.length ≤ s.puts.length ∧
    st = st0 ++ [.lst (lD (p0 ++ s.r0)), .lst (lD (p1 ++ s.r1)), .lst [.loc st0.length, .loc (st0.length + 1)], .lst (lD s.nums), .lst [.int (p0.length : Nat), .int (p1.length : Nat)]]
theorem atI_nat {α : Type} (l : List α) (n : Nat) : atI l (n : Int) = l[n]? := by
  unfold atI ixN
  rw [if_pos (Int.natCast_nonneg n)]
  by_cases h : n < l.length
  · rw [if_pos (by omega)]; simp
  · rw [if_neg (by omega), List.getElem?_eq_none (by omega)]; rfl
theorem at_split (p r : List Nat) (x : Nat) : atI (lD (p ++ x :: r)) (p.length : Int) = some (.int (x : Nat)) := by
  rw [atI_nat]
  simp [lD, nD]
theorem numbers_turn {cf : CF} {run : D} {st0 : Store} (s : S) (e : Ev) (l : List Ev) (env : Cl.Env) (st : Store) (hf : Fit (e :: l) s) (h : InvN run st0 s env st) :
    ∃ env' st', turnS cf (.tup (.cons (.nm 5) (.cons (.nm 6) .nil))) b_numbers_along_1 (encE e) env st = some (.nx env' st') ∧ InvN run st0 (s.step e) env' st' := by
  obtain ⟨p0, p1, a, b, rfl, q0, q1, rfl⟩ := h
  obtain ⟨hok, h1, h2, h3, h4, h5, h6, h7⟩ := hf
  have hok := hok.1
  obtain ⟨own, n⟩ := e
  rw [List.length_cons] at h1 h2 h3 h4 h5 h6 h7
  have m0 : p0.length + s.r0.length ≤ 100000 := by omega
  have m1 : p1.length + s.r1.length ≤ 100000 := by omega
  have m2 : s.nums.length ≤ 100000 := by omega
  by_cases hp : 0 < n
  · cases own
    · simp [b_numbers_along_1, encE, hp, S.step, m0, m1, m2, S.kn, S.know, S.send, lD_snoc, and_assoc]
      exact ⟨p0, p1, some (D.int 0), some (D.int (n : Nat)), by simp, by simp; omega, by simp; omega, by simp⟩
    · simp [b_numbers_along_1, encE, hp, S.step, m0, m1, m2, S.kn, S.know, S.send, lD_snoc, and_assoc]
      exact ⟨p0, p1, some (D.int 1), some (D.int (n : Nat)), by simp, by simp; omega, by simp; omega, by simp⟩
  · have hl0 : n = 0 := by omega
    subst hl0
    have hr : s.rd own ≠ [] := hok.resolve_left (by simp)
    cases own
    · obtain ⟨x, r, hx⟩ := List.exists_cons_of_ne_nil (show s.r0 ≠ [] from hr)
      simp [b_numbers_along_1, encE, hp, S.step, m0, m1, m2, S.kn, S.rd, hx, S.know, S.send, S.setR, lD_snoc, at_split, and_assoc]
      rw [hx] at q0
      exact ⟨p0 ++ [x], p1, some (D.int 0), some (D.int 0), by simp, by simp at q0 ⊢; omega, by simpa using q1, by simp⟩
    · obtain ⟨x, r, hx⟩ := List.exists_cons_of_ne_nil (show s.r1 ≠ [] from hr)
      simp [b_numbers_along_1, encE, hp, S.step, m0, m1, m2, S.kn, S.rd, hx, S.know, S.send, S.setR, lD_snoc, at_split, and_assoc]
      rw [hx] at q1
      exact ⟨p0, p1 ++ [x], some (D.int 1), some (D.int 0), by simp, by simpa using q0, by simp at q1 ⊢; omega, by simp⟩
theorem numbers_along_ok {k : Nat} {st : Store} (r : List Ev) (hr : Fit r {}) : calls TT (k + 1) "numbers_along" [enc r] st = some (.ok (.lst (lD (tr r).nums)), st) := by
  rw [at_numbers_along]
  obtain ⟨env', st', e, p0, p1, a, b, rfl, q0, q1, rfl⟩ := frs_ok (cf := calls TT k) (s := l_numbers_along_1) (l := r) (f := encE) (src := .fix (r.map encE)) (env := [some (enc r), some (.loc (st.length + 4)), some (.loc (st.length + 2)), some (.loc (st.length + 3)), some (.int 0), none, none]) (st := st ++ [.lst [], .lst [], .lst [.loc st.length, .loc (st.length + 1)], .lst [], .lst [.int 0, .int 0]])
    Fit (InvN (enc r) st) S.step {} rfl (evI_over rfl) rfl (fun _ _ _ _ => rfl) hr ⟨[], [], none, none, rfl, by simp, by simp, rfl⟩ (fun s e l env st' p i => by
      obtain ⟨env', st2, e1, i1⟩ := numbers_turn (cf := calls TT k) s e l env st' p i
      exact ⟨env', st2, .inl e1, i1, p.step⟩)
  simp [d_numbers_along, c_numbers_along]
  rw [e]
  simp [Df.fin, frzD, frzAt, okPre_app]
  rfl
/-! ### numbers_known -/
/-- an event with the number that goes with it -/
def evN (p : Ev × Nat) : D := .tup [encE p.1, nD p.2]
def S.num (s : S) (e : Ev) : Nat := if 0 < e.2 then s.puts.length else (s.rd e.1).headD 0
/-- the numbers, event by event -/
def numsFrom : List Ev → S → List (Ev × Nat)
  | [], _ => []
  | e :: r, s => (e, s.num e) :: numsFrom r (s.step e)
theorem step_nums {s : S} {e : Ev} (h : okE s e) : (s.step e).nums = s.nums ++ [s.num e] := by
  obtain ⟨own, n⟩ := e
  by_cases hp : 0 < n
  · cases own <;> simp [S.step, S.num, hp, S.know, S.send]
  · have hr : s.rd own ≠ [] := h.resolve_left hp
    obtain ⟨x, r, hx⟩ := List.exists_cons_of_ne_nil hr
    cases own <;> simp [S.step, S.num, hp, hx, S.know, S.setR]
theorem nums_all : ∀ (r : List Ev) (s : S), Ok r s → (r.foldl S.step s).nums = s.nums ++ (numsFrom r s).map (·.2)
  | [], s, _ => by simp [numsFrom]
  | e :: r, s, h => by
    rw [List.foldl_cons, nums_all r _ h.2, step_nums h.1]
    simp [numsFrom]
theorem zip_nums : ∀ (r : List Ev) (s : S), zipD (r.map encE) (lD ((numsFrom r s).map (·.2))) = (numsFrom r s).map evN
  | [], _ => rfl
  | e :: r, s => by
    have ih := zip_nums r (s.step e)
    simp only [lD, List.map_map] at ih ⊢
    simp [numsFrom, zipD, evN, ih]
def S.stepN (s : S) (p : Ev × Nat) : S := s.step p.1
theorem foldl_nums : ∀ (r : List Ev) (s : S), (numsFrom r s).foldl S.stepN s = r.foldl S.step s
  | [], _ => rfl
  | e :: r, s => by simp only [numsFrom, List.foldl_cons]; exact foldl_nums r (s.step e)
/-- the items still to come -/
def FitN (l : List (Ev × Nat)) (s : S) : Prop := ∃ r, l = numsFrom r s ∧ Fit r s
theorem FitN.step {p : Ev × Nat} {l : List (Ev × Nat)} {s : S} (h : FitN (p :: l) s) : FitN l (s.stepN p) := by
  obtain ⟨r, e, f⟩ := h
  cases r with
  | nil => cases e
  | cons a r =>
    simp only [numsFrom, List.cons.injEq] at e
    obtain ⟨rfl, rfl⟩ := e
    exact ⟨r, rfl, f.step⟩
theorem FitN.at {p : Ev × Nat} {l : List (Ev × Nat)} {s : S} (h : FitN (p :: l) s) : p.2 = s.num p.1 ∧ ∃ r, Fit (p.1 :: r) s := by
  obtain ⟨r, e, f⟩ := h
  cases r with
  | nil => cases e
  | cons a r =>
    simp only [numsFrom, List.cons.injEq] at e
    obtain ⟨rfl, rfl⟩ := e
    exact ⟨rfl, r, f⟩
theorem step_kn {s : S} {e : Ev} (h : okE s e) (b : Bool) : (s.step e).kn b = if b = e.1 then s.kn b ++ [s.num e] else s.kn b := by
  obtain ⟨own, n⟩ := e
  by_cases hp : 0 < n
  · cases own <;> cases b <;> simp [S.step, S.num, hp, S.know, S.send, S.kn]
  · have hr : s.rd own ≠ [] := h.resolve_left hp
    obtain ⟨x, r, hx⟩ := List.exists_cons_of_ne_nil hr
    cases own <;> cases b <;> simp [S.step, S.num, hp, hx, S.know, S.setR, S.kn]
def InvK (run : D) (st0 : Store) (s : S) (env : Cl.Env) (st : Store) : Prop :=
  ∃ (a b c : Option D), env = [some run, some (.loc (st0.length + 2)), a, b, c] ∧ st = st0 ++ [.lst (lD (s.kn false)), .lst (lD (s.kn true)), .lst [.loc st0.length, .loc (st0.length + 1)]]
theorem known_turn {cf : CF} {run : D} {st0 : Store} (s : S) (p : Ev × Nat) (l : List (Ev × Nat)) (env : Cl.Env) (st : Store) (hf : FitN (p :: l) s) (h : InvK run st0 s env st) :
    ∃ env' st', turnS cf (.tup (.cons (.tup (.cons (.nm 3) (.cons (.nm 4) .nil))) (.cons (.nm 2) .nil))) b_numbers_known_1 (evN p) env st = some (.nx env' st') ∧ InvK run st0 (s.stepN p) env' st' := by
  obtain ⟨a, b, c, rfl, rfl⟩ := h
  obtain ⟨hn, r, f⟩ := hf.at
  obtain ⟨⟨own, n⟩, x⟩ := p
  obtain ⟨hok, h1, h2, h3, h4, h5, h6, h7⟩ := f
  have m0 : (s.kn false).length ≤ 100000 := by simp only [S.kn]; simp; omega
  have m1 : (s.kn true).length ≤ 100000 := by simp only [S.kn]; simp; omega
  have hn : x = s.num (own, n) := hn
  subst hn
  cases own
  · simp [b_numbers_known_1, evN, encE, nD, m0, m1, lD_snoc, and_assoc]
    exact ⟨some (.int (s.num (false, n) : Nat)), some (.int 0), some (.int (n : Nat)), rfl, by simp [S.stepN, step_kn hok.1]⟩
  · simp [b_numbers_known_1, evN, encE, nD, m0, m1, lD_snoc, and_assoc]
    exact ⟨some (.int (s.num (true, n) : Nat)), some (.int 1), some (.int (n : Nat)), rfl, by simp [S.stepN, step_kn hok.1]⟩
theorem evI_zipN {k : Nat} {st : Store} {env : Cl.Env} (r : List Ev) (hr : Fit r {}) (h : env[0]? = some (some (enc r))) : evI (calls TT (k + 1)) (.zip (.var 0) (.cal "numbers_along" (.cons (.var 0) .nil))) env st = some (.ok (.fix ((numsFrom r {}).map evN)), st) := by
  have e := nums_all r {} hr.1
  have z := zip_nums r {}
  simp [h, numbers_along_ok r hr]
  rw [enc]
  simp only [tr, e, List.nil_append, z]
theorem numbers_known_ok {k : Nat} {st : Store} (r : List Ev) (hr : Fit r {}) : calls TT (k + 2) "numbers_known" [enc r] st = some (.ok (.lst [.lst (lD ((tr r).kn false)), .lst (lD ((tr r).kn true))]), st) := by
  rw [at_numbers_known]
  obtain ⟨env', st', e, a, b, c, rfl, rfl⟩ := frs_ok (cf := calls TT (k + 1)) (s := l_numbers_known_1) (l := numsFrom r {}) (f := evN) (src := .fix ((numsFrom r {}).map evN)) (env := [some (enc r), some (.loc (st.length + 2)), none, none, none]) (st := st ++ [.lst [], .lst [], .lst [.loc st.length, .loc (st.length + 1)]])
    FitN (InvK (enc r) st) S.stepN {} rfl (evI_zipN r hr rfl) rfl (fun _ _ _ _ => rfl) ⟨r, rfl, hr⟩ ⟨none, none, none, rfl, rfl⟩ (fun s e l env st' p i => by
      obtain ⟨env', st2, e1, i1⟩ := known_turn (cf := calls TT (k + 1)) s e l env st' p i
      exact ⟨env', st2, .inl e1, i1, p.step⟩)
  simp [d_numbers_known, c_numbers_known]
  rw [e, foldl_nums]
  simp [Df.fin, frzD, frzL, frzAt, okPre_app]
  exact ⟨rfl, rfl⟩
end K02

namespace K02
open PySem Cl
open L2 (atI ixN)
/-! ### seen_by, seen, known -/
theorem step_saw {s : S} {e : Ev} : (s.step e).saw = if 0 < e.2 then s.saw ++ [srtN (s.kn e.1)] else s.saw := by
  obtain ⟨own, n⟩ := e
  by_cases hp : 0 < n
  · cases own <;> simp [S.step, hp, S.know, S.send]
  · cases h : s.rd own with
    | nil => simp [S.step, hp, h]
    | cons x r => cases own <;> simp [S.step, hp, h, S.know, S.setR]
def InvW (run : D) (st0 : Store) (s : S) (env : Cl.Env) (st : Store) : Prop :=
  ∃ (a b c : Option D), env = [some run, some (.loc (st0.length + 2)), some (.loc (st0.length + 3)), a, b, c] ∧ st = st0 ++ [.lst (lD (s.kn false)), .lst (lD (s.kn true)), .lst [.loc st0.length, .loc (st0.length + 1)], .lst (sawD s.saw)]
theorem srt_ints (l : List Nat) : (match ints? (lD l) with | some is => some (E.f ((srtI is).map .int)) | none => none) = some (E.f (lD (srtN l))) := by
  rw [ints_lD]
  simp only [srtI_nat]
@[simp] theorem srtI_nat' (l : List Nat) : (srtI (l.map Int.ofNat)).map D.int = lD (srtN l) := srtI_nat l
theorem seen_turn {cf : CF} {run : D} {st0 : Store} (s : S) (p : Ev × Nat) (l : List (Ev × Nat)) (env : Cl.Env) (st : Store) (hf : FitN (p :: l) s) (h : InvW run st0 s env st) :
    ∃ env' st', turnS cf (.tup (.cons (.tup (.cons (.nm 4) (.cons (.nm 5) .nil))) (.cons (.nm 3) .nil))) b_seen_by_1 (evN p) env st = some (.nx env' st') ∧ InvW run st0 (s.stepN p) env' st' := by
  obtain ⟨a, b, c, rfl, rfl⟩ := h
  obtain ⟨hn, r, f⟩ := hf.at
  obtain ⟨⟨own, n⟩, x⟩ := p
  obtain ⟨hok, h1, h2, h3, h4, h5, h6, h7⟩ := f
  have m0 : (s.kn false).length ≤ 100000 := by simp only [S.kn]; simp; omega
  have m1 : (s.kn true).length ≤ 100000 := by simp only [S.kn]; simp; omega
  have m2 : s.saw.length ≤ 100000 := by omega
  have hn : x = s.num (own, n) := hn
  subst hn
  by_cases hp : 0 < n
  · cases own
    · simp [b_seen_by_1, evN, encE, nD, m0, m1, m2, lD_snoc, sawD_snoc, and_assoc, hp]
      exact ⟨some (.int (s.num (false, n) : Nat)), some (.int 0), some (.int (n : Nat)), rfl, by simp [S.stepN, step_kn hok.1, step_saw, hp]⟩
    · simp [b_seen_by_1, evN, encE, nD, m0, m1, m2, lD_snoc, sawD_snoc, and_assoc, hp]
      exact ⟨some (.int (s.num (true, n) : Nat)), some (.int 1), some (.int (n : Nat)), rfl, by simp [S.stepN, step_kn hok.1, step_saw, hp]⟩
  · cases own
    · simp [b_seen_by_1, evN, encE, nD, m0, m1, m2, lD_snoc, sawD_snoc, and_assoc, hp]
      exact ⟨some (.int (s.num (false, n) : Nat)), some (.int 0), some (.int (n : Nat)), rfl, by simp [S.stepN, step_kn hok.1, step_saw, hp]⟩
    · simp [b_seen_by_1, evN, encE, nD, m0, m1, m2, lD_snoc, sawD_snoc, and_assoc, hp]
      exact ⟨some (.int (s.num (true, n) : Nat)), some (.int 1), some (.int (n : Nat)), rfl, by simp [S.stepN, step_kn hok.1, step_saw, hp]⟩
theorem seen_by_ok {k : Nat} {st : Store} (r : List Ev) (hr : Fit r {}) : calls TT (k + 2) "seen_by" [enc r] st = some (.ok (.lst (sawD (tr r).saw)), st) := by
  rw [at_seen_by]
  obtain ⟨env', st', e, a, b, c, rfl, rfl⟩ := frs_ok (cf := calls TT (k + 1)) (s := l_seen_by_1) (l := numsFrom r {}) (f := evN) (src := .fix ((numsFrom r {}).map evN)) (env := [some (enc r), some (.loc (st.length + 2)), some (.loc (st.length + 3)), none, none, none]) (st := st ++ [.lst [], .lst [], .lst [.loc st.length, .loc (st.length + 1)], .lst []])
    FitN (InvW (enc r) st) S.stepN {} rfl (evI_zipN r hr rfl) rfl (fun _ _ _ _ => rfl) ⟨r, rfl, hr⟩ ⟨none, none, none, rfl, rfl⟩ (fun s e l env st' p i => by
      obtain ⟨env', st2, e1, i1⟩ := seen_turn (cf := calls TT (k + 1)) s e l env st' p i
      exact ⟨env', st2, .inl e1, i1, p.step⟩)
  simp [d_seen_by, c_seen_by]
  rw [e, foldl_nums]
  simp [Df.fin, frzD, frzL, frzAt, okPre_app]
  rfl
theorem seen_ok {k : Nat} {st : Store} (r : List Ev) (hr : Fit r {}) (n : Nat) (x : List Nat) (hx : (tr r).saw[n]? = some x) : calls TT (k + 3) "seen" [enc r, .int (n : Nat)] st = some (.ok (.tup (lD x)), st) := by
  obtain ⟨hn, hx⟩ := List.getElem?_eq_some_iff.mp hx
  rw [at_seen]
  simp [d_seen, c_seen, seen_by_ok r hr, hn, atI_nat, sawD]
  rw [hx]
  exact fin_same (d := .tup (lD x)) (noL_lD x)
theorem seen_no {k : Nat} {st : Store} (r : List Ev) (hr : Fit r {}) (n : Int) (hx : ¬ (0 ≤ n ∧ n < (tr r).saw.length)) : calls TT (k + 3) "seen" [enc r, .int n] st = some (.ex ⟨"NoPlace", some (.int n)⟩, st) := by
  rw [at_seen]
  by_cases h0 : 0 ≤ n
  · have h1 : ¬ n < (tr r).saw.length := fun z => hx ⟨h0, z⟩
    simp [d_seen, c_seen, seen_by_ok r hr, h0, h1, Df.finX, frzD]
    have := okPre_app st.length st []
    rw [List.append_nil] at this
    simp [this]
  · simp [d_seen, c_seen, seen_by_ok r hr, h0, Df.finX, frzD]
    have := okPre_app st.length st []
    rw [List.append_nil] at this
    simp [this]
theorem known_ok {k : Nat} {st : Store} (r : List Ev) (hr : Fit r {}) (b : Bool) : calls TT (k + 3) "known" [enc r, .int (sd b)] st = some (.ok (.tup (lD (srtN ((tr r).kn b)))), st) := by
  rw [at_known]
  cases b <;> simp [d_known, c_known, numbers_known_ok r hr] <;> exact fin_same (noL_lD _)
end K02

namespace K02
open PySem Cl
open L2 (atI ixN)
/-! ### puts -/
theorem step_puts {s : S} {e : Ev} : (s.step e).puts = if 0 < e.2 then s.puts ++ [e] else s.puts := by
  obtain ⟨own, n⟩ := e
  by_cases hp : 0 < n
  · cases own <;> simp [S.step, hp, S.know, S.send]
  · cases h : s.rd own with
    | nil => simp [S.step, hp, h]
    | cons x r => cases own <;> simp [S.step, hp, h, S.know, S.setR]
theorem puts_all : ∀ (r : List Ev) (s : S), (r.foldl S.step s).puts = s.puts ++ r.filter fun e => decide (0 < e.2)
  | [], s => by simp
  | e :: r, s => by
    rw [List.foldl_cons, puts_all r, step_puts]
    by_cases h : 0 < e.2 <;> simp [h]
theorem Fit.len {r : List Ev} {s : S} (h : Fit r s) : r.length ≤ 1000 := by
  obtain ⟨_, h1, _⟩ := h
  omega
theorem puts_of_tr {k : Nat} {st : Store} (r : List Ev) (hr : Fit r {}) : calls TT (k + 1) "puts_of" [enc r] st = some (.ok (enc (tr r).puts), st) := by
  rw [puts_of_ok r (by have := hr.len; omega), tr, puts_all]
  rfl
/-! ### _law_track -/
def InvT (run : D) (st0 : Store) (s : S) (env : Cl.Env) (st : Store) : Prop :=
  ∃ (a b : Option D), env = [some run, some (.loc st0.length), some (.loc (st0.length + 1)), some (.tup [.loc (st0.length + 2), .loc (st0.length + 3)]), some (.tup [.loc (st0.length + 4), .loc (st0.length + 5)]), a, b] ∧
    st = st0 ++ [.lst (s.puts.map encE), .lst (sawD s.saw), .lst (lD s.k0), .lst (lD s.k1), .lst (lD s.r0), .lst (lD s.r1)]
theorem puts_snoc (l : List Ev) (b : Bool) (n : Nat) : l.map encE ++ [.tup [.int (sd b), .int (n : Nat)]] = (l ++ [(b, n)]).map encE := by simp [encE]
theorem track_turn {cf : CF} {run : D} {st0 : Store} (s : S) (e : Ev) (l : List Ev) (env : Cl.Env) (st : Store) (hf : Fit (e :: l) s) (h : InvT run st0 s env st) :
    ∃ env' st', turnS cf (.tup (.cons (.nm 5) (.cons (.nm 6) .nil))) b__law_track_1 (encE e) env st = some (.nx env' st') ∧ InvT run st0 (s.step e) env' st' := by
  obtain ⟨a, b, rfl, rfl⟩ := h
  obtain ⟨hok, h1, h2, h3, h4, h5, h6, h7⟩ := hf
  have hok := hok.1
  obtain ⟨own, n⟩ := e
  rw [List.length_cons] at h1 h2 h3 h4 h5 h6 h7
  have m0 : s.r0.length ≤ 100000 := by omega
  have m1 : s.r1.length ≤ 100000 := by omega
  have m2 : s.k0.length ≤ 100000 := by omega
  have m3 : s.k1.length ≤ 100000 := by omega
  have m4 : s.puts.length ≤ 100000 := by omega
  have m5 : s.saw.length ≤ 100000 := by omega
  by_cases hp : 0 < n
  · cases own
    · simp [b__law_track_1, encE, hp, S.step, m0, m1, m2, m3, m4, m5, S.kn, S.know, S.send, lD_snoc, sawD_snoc, and_assoc]
      exact ⟨some (.int 0), some (.int (n : Nat)), rfl, by simp [encE]⟩
    · simp [b__law_track_1, encE, hp, S.step, m0, m1, m2, m3, m4, m5, S.kn, S.know, S.send, lD_snoc, sawD_snoc, and_assoc]
      exact ⟨some (.int 1), some (.int (n : Nat)), rfl, by simp [encE]⟩
  · have hl0 : n = 0 := by omega
    subst hl0
    have hr : s.rd own ≠ [] := hok.resolve_left (by simp)
    cases own
    · obtain ⟨x, r, hx⟩ := List.exists_cons_of_ne_nil (show s.r0 ≠ [] from hr)
      simp [b__law_track_1, encE, hp, S.step, m0, m1, m2, m3, m4, m5, S.kn, S.rd, hx, S.know, S.send, S.setR, lD, nD, and_assoc]
      exact ⟨some (.int 0), some (.int 0), rfl, by simp [encE, lD, nD]⟩
    · obtain ⟨x, r, hx⟩ := List.exists_cons_of_ne_nil (show s.r1 ≠ [] from hr)
      simp [b__law_track_1, encE, hp, S.step, m0, m1, m2, m3, m4, m5, S.kn, S.rd, hx, S.know, S.send, S.setR, lD, nD, and_assoc]
      exact ⟨some (.int 1), some (.int 0), rfl, by simp [encE, lD, nD]⟩
theorem track_ok {k : Nat} {st : Store} (r : List Ev) (hr : Fit r {}) : calls TT (k + 1) "_law_track" [enc r] st =
    some (.ok (.tup [.lst ((tr r).puts.map encE), .lst (sawD (tr r).saw), .tup [.lst (lD (tr r).k0), .lst (lD (tr r).k1)], .tup [.lst (lD (tr r).r0), .lst (lD (tr r).r1)]]), st) := by
  rw [at__law_track]
  obtain ⟨env', st', e, a, b, rfl, rfl⟩ := frs_ok (cf := calls TT k) (s := l__law_track_1) (l := r) (f := encE) (src := .fix (r.map encE)) (env := [some (enc r), some (.loc st.length), some (.loc (st.length + 1)), some (.tup [.loc (st.length + 2), .loc (st.length + 3)]), some (.tup [.loc (st.length + 4), .loc (st.length + 5)]), none, none]) (st := st ++ [.lst [], .lst [], .lst [], .lst [], .lst [], .lst []])
    Fit (InvT (enc r) st) S.step {} rfl (evI_over rfl) rfl (fun _ _ _ _ => rfl) hr ⟨none, none, rfl, rfl⟩ (fun s e l env st' p i => by
      obtain ⟨env', st2, e1, i1⟩ := track_turn (cf := calls TT k) s e l env st' p i
      exact ⟨env', st2, .inl e1, i1, p.step⟩)
  simp [d__law_track, c__law_track]
  rw [e]
  simp [Df.fin, frzD, frzL, frzAt, okPre_app]
  exact ⟨rfl, rfl, ⟨rfl, rfl⟩, rfl, rfl⟩
end K02

namespace K02
open PySem Cl
open L2 (atI ixN)
/-! ### what stands in S -/
def S.own (s : S) (n : Nat) : Bool := (s.puts.getD n (false, 0)).1
def S.let (s : S) (n : Nat) : Nat := (s.puts.getD n (false, 0)).2
/-- the numbers that a side put -/
def S.idx (s : S) (b : Bool) : List Nat := (List.range s.puts.length).filter fun n => s.own n == b
structure WF (s : S) : Prop where
  kn : ∀ b, ∀ n ∈ s.kn b, n < s.puts.length
  rd : ∀ b, ∀ n ∈ s.rd b, n < s.puts.length
  fifo : ∀ b, s.idx (!b) = ((s.kn b).filter fun n => s.own n != b) ++ s.rd b
  own : ∀ b, s.idx b = (s.kn b).filter fun n => s.own n == b
theorem WF.nil : WF {} := ⟨fun b n h => by cases b <;> simp [S.kn] at h, fun b n h => by cases b <;> simp [S.rd] at h, fun b => by cases b <;> rfl, fun b => by cases b <;> rfl⟩
theorem step_rd {s : S} {e : Ev} (h : okE s e) (b : Bool) : (s.step e).rd b = if 0 < e.2 then (if b = e.1 then s.rd b else s.rd b ++ [s.puts.length]) else if b = e.1 then (s.rd b).tail else s.rd b := by
  obtain ⟨own, n⟩ := e
  by_cases hp : 0 < n
  · cases own <;> cases b <;> simp [S.step, hp, S.know, S.send, S.rd]
  · have hr : s.rd own ≠ [] := h.resolve_left hp
    obtain ⟨x, r, hx⟩ := List.exists_cons_of_ne_nil hr
    cases own <;> cases b <;> simp [S.step, hp, hx, S.know, S.setR] <;> simp [S.rd] at hx ⊢ <;> simp [hx]
theorem own_lt {s : S} {e : Ev} {n : Nat} (h : n < s.puts.length) : (s.step e).own n = s.own n := by
  unfold S.own
  rw [step_puts]
  split
  · simp [List.getElem?_append_left h]
  · rfl
theorem own_new {s : S} {e : Ev} (h : 0 < e.2) : (s.step e).own s.puts.length = e.1 := by
  unfold S.own
  rw [step_puts, if_pos h]
  simp
theorem idx_put {s : S} {e : Ev} (h : 0 < e.2) (b : Bool) : (s.step e).idx b = if e.1 = b then s.idx b ++ [s.puts.length] else s.idx b := by
  unfold S.idx
  have hl : (s.step e).puts.length = s.puts.length + 1 := by rw [step_puts, if_pos h]; simp
  rw [hl, List.range_succ, List.filter_append]
  have e1 : (List.range s.puts.length).filter (fun n => (s.step e).own n == b) = (List.range s.puts.length).filter (fun n => s.own n == b) := by
    apply List.filter_congr
    intro n hn
    rw [own_lt (List.mem_range.mp hn)]
  rw [e1]
  simp only [List.filter_cons, List.filter_nil, own_new h]
  by_cases c : e.1 = b
  · simp [c]
  · simp [c]
theorem idx_take {s : S} {e : Ev} (h : ¬ 0 < e.2) (b : Bool) : (s.step e).idx b = s.idx b := by
  have hp : (s.step e).puts = s.puts := by rw [step_puts, if_neg h]
  unfold S.idx S.own
  rw [hp]
theorem filter_own {s : S} {e : Ev} {l : List Nat} (h : ∀ n ∈ l, n < s.puts.length) (p : Bool → Bool) : (l.filter fun n => p ((s.step e).own n)) = l.filter fun n => p (s.own n) := by
  apply List.filter_congr
  intro n hn
  rw [own_lt (h n hn)]
theorem WF.step {s : S} {e : Ev} (w : WF s) (h : okE s e) : WF (s.step e) := by
  obtain ⟨own, n⟩ := e
  by_cases hp : 0 < n
  · have hl : (s.step (own, n)).puts.length = s.puts.length + 1 := by rw [step_puts, if_pos hp]; simp
    have hnum : s.num (own, n) = s.puts.length := by simp [S.num, hp]
    refine ⟨fun b m hm => ?_, fun b m hm => ?_, fun b => ?_, fun b => ?_⟩
    · rw [step_kn h] at hm
      rw [hl]
      split at hm
      · rcases List.mem_append.mp hm with z | z
        · have := w.kn b m z; omega
        · simp [hnum] at z; omega
      · have := w.kn b m hm; omega
    · rw [step_rd h, if_pos hp] at hm
      rw [hl]
      split at hm
      · have := w.rd b m hm; omega
      · rcases List.mem_append.mp hm with z | z
        · have := w.rd b m z; omega
        · simp at z; omega
    · rw [idx_put hp, step_kn h, step_rd h, if_pos hp, w.fifo b]
      by_cases c : b = own
      · subst c
        simp only [if_true, List.filter_append, filter_own (w.kn b) (fun x => x != b), hnum, List.filter_cons, own_new (s := s) (e := (b, n)) hp, List.filter_nil]
        simp
      · have c2 : own = !b := by cases b <;> cases own <;> simp_all
        subst c2
        simp only [if_neg c, if_true, filter_own (w.kn b) (fun x => x != b)]
        simp
    · rw [idx_put hp, step_kn h, w.own b]
      by_cases c : b = own
      · subst c
        simp only [if_true, List.filter_append, filter_own (w.kn b) (fun x => x == b), hnum, List.filter_cons, own_new (s := s) (e := (b, n)) hp, List.filter_nil]
        simp
      · have c2 : ¬ own = b := fun z => c z.symm
        simp only [if_neg c, if_neg c2, filter_own (w.kn b) (fun x => x == b)]
  · have hr : s.rd own ≠ [] := h.resolve_left hp
    obtain ⟨x, r, hx⟩ := List.exists_cons_of_ne_nil hr
    have hl : (s.step (own, n)).puts.length = s.puts.length := by rw [step_puts, if_neg hp]
    have hnum : s.num (own, n) = x := by simp [S.num, hp, hx]
    have hxl : x < s.puts.length := w.rd own x (by rw [hx]; exact List.mem_cons_self)
    have hxo : s.own x = !own := by
      have : x ∈ s.idx (!own) := by rw [w.fifo own, hx]; simp
      have := (List.mem_filter.mp this).2
      exact beq_iff_eq.mp this
    refine ⟨fun b m hm => ?_, fun b m hm => ?_, fun b => ?_, fun b => ?_⟩
    · rw [step_kn h] at hm
      rw [hl]
      split at hm
      · rcases List.mem_append.mp hm with z | z
        · exact w.kn b m z
        · simp [hnum] at z; omega
      · exact w.kn b m hm
    · rw [step_rd h, if_neg hp] at hm
      rw [hl]
      split at hm
      · exact w.rd b m (List.mem_of_mem_tail hm)
      · exact w.rd b m hm
    · rw [idx_take hp, step_kn h, step_rd h, if_neg hp, w.fifo b]
      by_cases c : b = own
      · subst c
        simp only [if_true, List.filter_append, filter_own (w.kn b) (fun x => x != b), hnum, List.filter_cons, own_lt hxl, hxo, List.filter_nil, hx]
        simp
      · simp only [if_neg c, filter_own (w.kn b) (fun x => x != b)]
    · rw [idx_take hp, step_kn h, w.own b]
      by_cases c : b = own
      · subst c
        simp only [if_true, List.filter_append, filter_own (w.kn b) (fun x => x == b), hnum, List.filter_cons, own_lt hxl, hxo, List.filter_nil]
        simp
      · simp only [if_neg c, filter_own (w.kn b) (fun x => x == b)]
theorem WF.all : ∀ (r : List Ev) (s : S), WF s → Ok r s → WF (r.foldl S.step s)
  | [], _, w, _ => w
  | e :: r, s, w, h => WF.all r (s.step e) (w.step h.1) h.2
end K02

namespace K02
open PySem Cl
open L2 (atI ixN)
theorem tr_wf {r : List Ev} (hr : Fit r {}) : WF (tr r) := WF.all r {} WF.nil hr.1
theorem puts_at {s : S} {n : Nat} (h : n < s.puts.length) : atI (s.puts.map encE) (n : Int) = some (encE (s.own n, s.let n)) := by
  rw [atI_nat, List.getElem?_map, List.getElem?_eq_getElem h]
  simp [S.own, S.let, h]
theorem puts_at' {s : S} {n : Nat} (h : n < s.puts.length) : s.puts[n]? = some (s.own n, s.let n) := by
  rw [List.getElem?_eq_getElem h]
  simp [S.own, S.let, h]
theorem sd_inj {a b : Bool} : (sd a = sd b) = (a = b) := by cases a <;> cases b <;> simp
theorem snoc_ind {α : Type} {P : List α → Prop} (h0 : P []) (h1 : ∀ l e, P l → P (l ++ [e])) (l : List α) : P l := by
  rw [← l.reverse_reverse]
  induction l.reverse with
  | nil => exact h0
  | cons a t ih => rw [List.reverse_cons]; exact h1 _ _ ih
/-- sums over the puts by place -/
theorem puts_filter {s : S} (b : Bool) : (s.puts.filter fun e => e.1 == b).map (·.2) = (s.idx b).map s.let := by
  have key : ∀ (l : List Ev), ((List.range l.length).filter fun n => (l.getD n (false, 0)).1 == b).map (fun n => (l.getD n (false, 0)).2) = (l.filter fun e => e.1 == b).map (·.2) := by
    refine snoc_ind rfl fun l e ih => ?_
    · rw [List.length_append, List.length_singleton, List.range_succ, List.filter_append, List.map_append, List.filter_append, List.map_append, ← ih]
      congr 1
      · have e1 : ∀ n ∈ List.range l.length, (l ++ [e]).getD n (false, 0) = l.getD n (false, 0) := fun n hn => by
          have := List.mem_range.mp hn
          simp [List.getElem?_append_left this]
        have e2 : (List.range l.length).filter (fun n => ((l ++ [e]).getD n (false, 0)).1 == b) = (List.range l.length).filter (fun n => (l.getD n (false, 0)).1 == b) := by
          apply List.filter_congr
          intro n hn
          rw [e1 n hn]
        rw [e2]
        apply List.map_congr_left
        intro n hn
        rw [e1 n (List.mem_filter.mp hn).1]
      · simp only [List.filter_cons, List.filter_nil]
        have e3 : (l ++ [e]).getD l.length (false, 0) = e := by simp
        rw [e3]
        split <;> simp [e3]
  unfold S.idx S.let S.own
  exact (key s.puts).symm
theorem x_roads_2_ok {cf : CF} {st : Store} {s : S} {b : Bool} {a0 a1 a4 a5 a6 a7 a8 a9 : Option D} (hl : s.puts.length ≤ 100000) : (ev cf x_roads_2 [a0, a1, some (enc s.puts), some (.int (sd b)), a4, a5, a6, a7, a8, a9]).x st = some (.ok (.f (lD ((s.idx (!b)).map s.let))), st) := by
  rw [comp_ok (x := x_roads_2) (l := s.puts) (f := encE) (src := .fix (s.puts.map encE)) (gg := fun e => if e.1 = b then none else some (nD e.2)) rfl (by simp [enc]) rfl rfl hl (fun e _ => ?_)]
  · congr 4
    rw [← puts_filter]
    generalize s.puts = l
    induction l with
    | nil => rfl
    | cons e l ih =>
      obtain ⟨x, y⟩ := e
      cases x <;> cases b <;> simp [List.filterMap_cons, List.filter_cons, ih] <;> simp [lD]
  · obtain ⟨x, y⟩ := e
    cases x <;> cases b <;> simp [encE, nD]
theorem x_roads_1_ok {cf : CF} {st : Store} {s : S} {b : Bool} {ns : List Nat} {a0 a1 a5 a6 a7 a8 a9 : Option D} (hn : ∀ n ∈ ns, n < s.puts.length) (hl : ns.length ≤ 100000) : (ev cf x_roads_1 [a0, a1, some (enc s.puts), some (.int (sd b)), some (.lst (lD ns)), a5, a6, a7, a8, a9]).x st = some (.ok (.f (lD (ns.filter fun n => s.own n != b))), st) := by
  rw [comp_ok (x := x_roads_1) (l := ns) (f := nD) (src := .fix (ns.map nD)) (gg := fun n => if s.own n = b then none else some (nD n)) rfl (by simp [lD]) rfl rfl hl (fun n hm => ?_)]
  · congr 4
    clear hn hl
    induction ns with
    | nil => rfl
    | cons n ns ih =>
      by_cases c : s.own n = b <;> simp [List.filterMap_cons, List.filter_cons, ih, c] <;> simp [lD]
  · have h := puts_at (hn n hm)
    rw [enc] at *
    by_cases c : s.own n = b
    · simp [nD, h, encE, c]
    · have c2 : ¬ sd (s.own n) = sd b := by rw [sd_inj]; exact c
      simp [nD, h, encE, c, c2]
end K02

namespace K02
open PySem Cl
open L2 (atI ixN)
theorem cut_from (xs : List D) (t : Nat) : cutD xs (some (t : Int)) none = xs.drop t := by
  unfold cutD
  have h1 : HT.sIx xs.length 0 (some (t : Int)) = min t xs.length := HT.sIx_nat _ _ _
  have h2 : HT.sIx xs.length xs.length none = xs.length := rfl
  rw [h1, h2]
  by_cases h : t ≤ xs.length
  · rw [Nat.min_eq_left h, List.take_of_length_le (by simp)]
  · rw [Nat.min_eq_right (by omega), List.drop_of_length_le (Nat.le_refl _), List.drop_of_length_le (by omega)]; simp
theorem drop_lD (l : List Nat) (t : Nat) : (lD l).drop t = lD (l.drop t) := by simp [lD, List.map_drop]
/-- the letters under way to a side -/
def S.lets (s : S) (b : Bool) : List Nat := (s.rd b).map s.let
theorem sent_drop {s : S} (w : WF s) (b : Bool) : ((s.idx (!b)).map s.let).drop ((s.kn b).filter fun n => s.own n != b).length = s.lets b := by
  rw [w.fifo b, List.map_append, List.drop_left' (by simp)]
  rfl
theorem Fit.all {r : List Ev} {s : S} (h : Fit r s) : ∀ {t : S}, t = r.foldl S.step s → t.puts.length ≤ 1000 ∧ t.k0.length ≤ 1000 ∧ t.k1.length ≤ 1000 ∧ t.r0.length ≤ 1000 ∧ t.r1.length ≤ 1000 ∧ t.saw.length ≤ 1000 := by
  induction r generalizing s with
  | nil =>
    intro t e
    subst e
    obtain ⟨_, h1, h2, h3, h4, h5, h6, h7⟩ := h
    simp at h1 h2 h3 h4 h5 h6 h7
    exact ⟨h5, h3, h4, h1, h2, h7⟩
  | cons e r ih => exact fun {t} q => ih h.step q
theorem tr_len {r : List Ev} (h : Fit r {}) : (tr r).puts.length ≤ 1000 ∧ (tr r).k0.length ≤ 1000 ∧ (tr r).k1.length ≤ 1000 ∧ (tr r).r0.length ≤ 1000 ∧ (tr r).r1.length ≤ 1000 ∧ (tr r).saw.length ≤ 1000 := h.all rfl
theorem kn_len {r : List Ev} (h : Fit r {}) (b : Bool) : ((tr r).kn b).length ≤ 1000 := by
  have := tr_len h
  cases b
  · exact this.2.1
  · exact this.2.2.1
theorem roads_ok {k : Nat} {st : Store} (r : List Ev) (hr : Fit r {}) : calls TT (k + 3) "roads" [enc r] st = some (.ok (.tup [.tup (lD ((tr r).lets false)), .tup (lD ((tr r).lets true))]), st) := by
  have w := tr_wf hr
  have hl := (tr_len hr).1
  have x1 := fun (st : Store) (a0 a1 a5 a6 a7 a8 a9 : Option D) => x_roads_1_ok (cf := calls TT (k + 2)) (st := st) (s := tr r) (b := false) (ns := (tr r).kn false) (a0 := a0) (a1 := a1) (a5 := a5) (a6 := a6) (a7 := a7) (a8 := a8) (a9 := a9) (w.kn false) (by have := kn_len hr false; omega)
  have x2 := fun (st : Store) (a0 a1 a5 a6 a7 a8 a9 : Option D) => x_roads_1_ok (cf := calls TT (k + 2)) (st := st) (s := tr r) (b := true) (ns := (tr r).kn true) (a0 := a0) (a1 := a1) (a5 := a5) (a6 := a6) (a7 := a7) (a8 := a8) (a9 := a9) (w.kn true) (by have := kn_len hr true; omega)
  have y1 := fun (st : Store) (a0 a1 a4 a5 a6 a7 a8 a9 : Option D) => x_roads_2_ok (cf := calls TT (k + 2)) (st := st) (s := tr r) (b := false) (a0 := a0) (a1 := a1) (a4 := a4) (a5 := a5) (a6 := a6) (a7 := a7) (a8 := a8) (a9 := a9) (by omega)
  have y2 := fun (st : Store) (a0 a1 a4 a5 a6 a7 a8 a9 : Option D) => x_roads_2_ok (cf := calls TT (k + 2)) (st := st) (s := tr r) (b := true) (a0 := a0) (a1 := a1) (a4 := a4) (a5 := a5) (a6 := a6) (a7 := a7) (a8 := a8) (a9 := a9) (by omega)
  simp only [sd_f, sd_t] at x1 x2 y1 y2
  have e1 := sent_drop w false
  have e2 := sent_drop w true
  rw [at_roads]
  simp [d_roads, c_roads, puts_of_tr r hr, numbers_known_ok r hr, l_roads_1, forGo, enmD, b_roads_1, x1, x2, y1, y2, slcD, cut_from, drop_lD]
  simp at e1 e2
  rw [e1, e2]
  exact fin_app (by simp [noL_lD])
theorem lD_nil (l : List Nat) : lD l = [] ↔ l = [] := by simp [lD]
theorem plain_lD (n : Nat) (l : List Nat) : plainDs n (lD l) = true := plainDs_map (fun a => by cases n <;> rfl) l
theorem solid_lD (l : List Nat) : solids (lD l) = true := solids_map (fun a => rfl) l
theorem beq_nD (a b : Nat) : D.beq (nD a) (nD b) = decide (a = b) := by
  by_cases h : a = b
  · subst h; simp [D.beq, nD]
  · have h2 : ¬ (a : Int) = (b : Int) := by omega
    simp [D.beq, nD, h, h2]
theorem beq_lD : ∀ (a b : List Nat), Ds.beq (lD a) (lD b) = decide (a = b)
  | [], [] => rfl
  | [], _ :: _ => rfl
  | _ :: _, [] => rfl
  | a :: as, b :: bs => by
    have ih := beq_lD as bs
    simp only [lD] at ih
    simp only [lD, List.map_cons, Ds.beq, ih, beq_nD]
    by_cases h : a = b <;> by_cases h2 : as = bs <;> simp [h, h2]
theorem is_at_rest_ok {k : Nat} {st : Store} (r : List Ev) (hr : Fit r {}) : calls TT (k + 4) "is_at_rest" [enc r] st = some (.ok (.bl (decide ((tr r).lets false = [] ∧ (tr r).lets true = []))), st) := by
  rw [at_is_at_rest]
  have e := eqD_solid (st := st) (a := .tup [.tup (lD ((tr r).lets false)), .tup (lD ((tr r).lets true))]) (b := .tup [.tup [], .tup []]) (by simp [plainD, plainDs, plain_lD]) rfl (by simp [solid, solids, solid_lD]) rfl
  simp [d_is_at_rest, c_is_at_rest, roads_ok r hr, e]
  have z : D.beq (.tup [.tup (lD ((tr r).lets false)), .tup (lD ((tr r).lets true))]) (.tup [.tup [], .tup []]) = decide ((tr r).lets false = [] ∧ (tr r).lets true = []) := by
    have b1 := beq_lD ((tr r).lets false) []
    have b2 := beq_lD ((tr r).lets true) []
    simp only [lD, List.map_nil] at b1 b2
    simp only [lD, D.beq, Ds.beq, b1, b2]
    by_cases h : (tr r).lets false = [] <;> by_cases h2 : (tr r).lets true = [] <;> simp [h, h2]
  rw [z]
  simp
  exact fin_same rfl
theorem can_take_ok {k : Nat} {st : Store} (r : List Ev) (hr : Fit r {}) (b : Bool) : calls TT (k + 4) "can_take" [enc r, .int (sd b)] st = some (.ok (.bl (decide ((tr r).lets b ≠ []))), st) := by
  rw [at_can_take]
  have e := fun b => eqD_solid (st := st) (a := .tup (lD ((tr r).lets b))) (b := .tup []) (by simp [plainD, plainDs, plain_lD]) rfl (by simp [solid, solids, solid_lD]) rfl
  have z : ∀ b, D.beq (.tup (lD ((tr r).lets b))) (.tup []) = decide ((tr r).lets b = []) := fun b => by
    have b1 := beq_lD ((tr r).lets b) []
    simp only [lD, List.map_nil] at b1
    simp only [lD, D.beq, b1]
  cases b <;> simp [d_can_take, c_can_take, roads_ok r hr, e, z] <;> exact fin_same rfl
end K02

namespace K02
open PySem Cl
open L2 (atI ixN)
/-! ### small ones -/
theorem is_tuple_of_tup {k : Nat} {st : Store} (xs : List D) (n : Int) : calls TT (k + 1) "is_tuple_of" [.tup xs, .int n] st = some (.ok (.bl (decide ((xs.length : Int) = n))), st) := by
  rw [at_is_tuple_of]
  by_cases h : (xs.length : Int) = n <;> simp [d_is_tuple_of, c_is_tuple_of, h] <;> exact fin_same rfl
theorem is_event_ok {k : Nat} {st : Store} (e : Ev) : calls TT (k + 2) "is_event" [encE e] st = some (.ok (.bl true), st) := by
  rw [at_is_event]
  obtain ⟨own, n⟩ := e
  have e := is_tuple_of_tup (k := k) (st := st) [.int (sd own), .int (n : Nat)] 2
  have i1 : inD st (.int 0) (.tup [.int 0, .int 1]) = some true := by rw [inD_tup rfl rfl rfl rfl]; rfl
  have i2 : inD st (.int 1) (.tup [.int 0, .int 1]) = some true := by rw [inD_tup rfl rfl rfl rfl]; rfl
  cases own <;> simp [d_is_event, c_is_event, encE, is_number_ok] at e ⊢ <;> rw [e] <;> simp [is_number_ok, i1, i2] <;> exact fin_same rfl
theorem exchanged_ok {k : Nat} {st : Store} (r : List Ev) (hr : r.length ≤ 100000) : calls TT (k + 1) "exchanged" [enc r] st = some (.ok (enc (r.map fun e => (!e.1, e.2))), st) := by
  rw [at_exchanged]
  have := comp_all (cf := calls TT k) (x := x_exchanged_1) (l := r) (f := encE) (src := .fix (r.map encE)) (env := [some (enc r), none, none]) (st := st) (gg := fun e => encE (!e.1, e.2)) rfl (evI_over rfl) rfl rfl hr (fun e _ => by
    obtain ⟨own, n⟩ := e
    cases own <;> simp [encE])
  simp [d_exchanged, c_exchanged, this]
  have e : (List.map (fun e => encE (!e.fst, e.snd)) r) = (r.map fun e => (!e.1, e.2)).map encE := by simp [List.map_map, Function.comp_def]
  rw [e]
  exact fin_same (noL_enc _)
theorem law_reads_ok {k : Nat} {st : Store} (p : List Ev) (w : List Nat) (hw : ∀ n ∈ w, n < p.length) (hl : w.length ≤ 100000) :
    calls TT (k + 1) "_law_reads" [.lst (p.map encE), .tup (lD w)] st = some (.ok (.tup (lD (w.map fun n => (p.getD n (false, 0)).2))), st) := by
  rw [at__law_reads]
  have := comp_all (cf := calls TT k) (x := x__law_reads_1) (l := w) (f := nD) (src := .fix (lD w)) (env := [some (.lst (p.map encE)), some (.tup (lD w)), none]) (st := st) (gg := fun n => nD (p.getD n (false, 0)).2) rfl (evI_over rfl) rfl rfl hl (fun n hn => by
    have h := hw n hn
    simp [nD, atI_nat, h, encE])
  simp [d__law_reads, c__law_reads, this]
  have e : (List.map (fun n => nD (p[n]?.getD (false, 0)).2) w) = lD (w.map fun n => (p[n]?.getD (false, 0)).2) := by simp [lD, List.map_map, Function.comp_def]
  rw [e]
  exact fin_same (noL_lD _)
theorem law_heard_no {k : Nat} {st : Store} (r : List Ev) (hr : Fit r {}) (n : Int) (hx : ¬ (0 ≤ n ∧ n < (tr r).saw.length)) : calls TT (k + 4) "_law_heard" [enc r, .int n] st = some (.ok (.tup [.str "no place", .int n]), st) := by
  rw [at__law_heard]
  simp [d__law_heard, c__law_heard, seen_no r hr n hx, suRun]
  exact fin_same rfl
end K02

namespace K02
open PySem Cl
open L2 (atI ixN)
theorem atI_nat' {α : Type} (l : List α) (n : Nat) (x : α) (h : l[n]? = some x) : atI l (n : Nat) = some x := by
  obtain ⟨h1, h2⟩ := List.getElem?_eq_some_iff.mp h
  simp [atI, ixN, h1, h2]
section
variable {α : Type} (a b c d e f g : α) (l : List α)
@[simp] theorem atI2 : atI (a :: b :: c :: l) 2 = some c := atI_nat' _ 2 _ rfl
@[simp] theorem atI3 : atI (a :: b :: c :: d :: l) 3 = some d := atI_nat' _ 3 _ rfl
@[simp] theorem atI4 : atI (a :: b :: c :: d :: e :: l) 4 = some e := atI_nat' _ 4 _ rfl
@[simp] theorem atI5 : atI (a :: b :: c :: d :: e :: f :: l) 5 = some f := atI_nat' _ 5 _ rfl
@[simp] theorem atI6 : atI (a :: b :: c :: d :: e :: f :: g :: l) 6 = some g := atI_nat' _ 6 _ rfl
end
/-! ### settled, _law_settled, _law_told -/
/-- everything under way is taken -/
def S.home (s : S) : List Ev := List.replicate (s.rd false).length (false, 0) ++ List.replicate (s.rd true).length (true, 0)
theorem flat1 {α : Type} (n : Nat) (a : α) : (List.replicate n [a]).flatten = List.replicate n a := by
  induction n with
  | zero => rfl
  | succ n ih => simp [List.replicate_succ, ih]
theorem lets_len (s : S) (b : Bool) : (s.lets b).length = (s.rd b).length := by simp [S.lets]
theorem rd_len {r : List Ev} (h : Fit r {}) (b : Bool) : ((tr r).rd b).length ≤ 1000 := by
  have := tr_len h
  cases b
  · exact this.2.2.2.1
  · exact this.2.2.2.2.1
theorem home_enc (s : S) (r : List Ev) : r.map encE ++ (List.replicate s.r0.length (D.tup [.int 0, .int 0]) ++ List.replicate s.r1.length (D.tup [.int 1, .int 0])) = (r ++ s.home).map encE := by
  simp [S.home, encE, S.rd]
theorem law_settled_ok {k : Nat} {st : Store} (r : List Ev) (hr : Fit r {}) : calls TT (k + 2) "_law_settled" [enc r] st = some (.ok (enc (r ++ (tr r).home)), st) := by
  rw [at__law_settled]
  have h0 := rd_len hr false
  have h1 := rd_len hr true
  have hl := hr.len
  simp only [S.rd] at h0 h1
  simp at h0 h1
  have z0 : ((tr r).r0.length : Int) ≤ 1000 := by omega
  have z1 : ((tr r).r1.length : Int) ≤ 1000 := by omega
  have z2 : r.length + (tr r).r0.length ≤ 100000 := by omega
  have z3 : r.length + ((tr r).r0.length + (tr r).r1.length) ≤ 100000 := by omega
  have t := track_ok (k := k) (st := st) r hr
  simp only [enc] at t
  simp [d__law_settled, c__law_settled, t, enc, z0, z1, flat1, z2, z3, Nat.add_assoc]
  simp only [home_enc]
  have := fin_same (st := st) (noL_enc (r ++ (tr r).home))
  simpa [enc] using this
theorem settled_ok {k : Nat} {st : Store} (r : List Ev) (hr : Fit r {}) : calls TT (k + 4) "settled" [enc r] st = some (.ok (enc (r ++ (tr r).home)), st) := by
  rw [at_settled]
  have h0 := rd_len hr false
  have h1 := rd_len hr true
  have hl := hr.len
  have this := comp_all (cf := calls TT (k + 3)) (x := x_settled_1) (l := r) (f := encE) (src := .fix (r.map encE)) (env := [some (enc r), none, none, none, none]) (st := st) (gg := fun e => encE e) rfl (evI_over rfl) rfl rfl (by omega) (fun e _ => by
    obtain ⟨own, n⟩ := e
    simp [encE])
  have y0 := lets_len (tr r) false
  have y1 := lets_len (tr r) true
  simp only [S.rd] at h0 h1 y0 y1
  simp at h0 h1 y0 y1
  have z4 : (tr r).r0.length ≤ 100000 := by omega
  have z5 : (tr r).r1.length ≤ 100000 := by omega
  have z2 : r.length + (tr r).r0.length ≤ 100000 := by omega
  have z3 : r.length + ((tr r).r0.length + (tr r).r1.length) ≤ 100000 := by omega
  have z0 : ((tr r).r0.length : Int) ≤ 10000 := by omega
  have z1 : ((tr r).r1.length : Int) ≤ 10000 := by omega
  simp [d_settled, c_settled, this, roads_ok r hr, l_settled_1, b_settled_1, forGo, enmD, y0, y1, flat1, z0, z1, z2, z3, z4, z5, Nat.add_assoc]
  simp only [home_enc]
  exact fin_app (noL_enc (r ++ (tr r).home))
end K02

namespace K02
open PySem Cl
open L2 (atI ixN)
/-! ### _law_told -/
def S.told (s : S) : D := .lst [.tup [.tup (lD (s.lets false)), .tup (lD (s.lets true))], .bl (decide (s.r0 = [] ∧ s.r1 = [])), enc s.puts, .lst (sawD s.saw), .lst [.tup (lD s.k0), .tup (lD s.k1)], .lst [.tup (lD (srtN s.k0)), .tup (lD (srtN s.k1))], .lst [.bl (decide (s.r0 ≠ [])), .bl (decide (s.r1 ≠ []))]]
theorem eqD_lst {st : Store} (a b : List Nat) : eqD st (.lst (lD a)) (.lst (lD b)) = some (decide (a = b)) := by
  rw [eqD_solid (by simp [plainD, plain_lD]) (by simp [plainD, plain_lD]) (by simp [solid, solid_lD]) (by simp [solid, solid_lD])]
  simp [D.beq, beq_lD]
theorem eqD_tup {st : Store} (a b : List Nat) : eqD st (.tup (lD a)) (.tup (lD b)) = some (decide (a = b)) := by
  rw [eqD_solid (by simp [plainD, plain_lD]) (by simp [plainD, plain_lD]) (by simp [solid, solid_lD]) (by simp [solid, solid_lD])]
  simp [D.beq, beq_lD]
theorem eqD_two {st : Store} (a b c d : List Nat) : eqD st (.tup [.lst (lD a), .lst (lD b)]) (.tup [.lst (lD c), .lst (lD d)]) = some (decide (a = c ∧ b = d)) := by
  rw [eqD_solid (by simp [plainD, plainDs, plain_lD]) (by simp [plainD, plainDs, plain_lD]) (by simp [solid, solids, solid_lD]) (by simp [solid, solids, solid_lD])]
  simp [D.beq, Ds.beq, beq_lD]
theorem told_4 {cf : CF} {st : Store} {s : S} (l : List Nat) (hl : ∀ n ∈ l, n < s.puts.length) (hn : l.length ≤ 100000) (a0 a1 a3 a4 a5 a7 : Option D) :
    (ev cf x__law_told_4 [a0, a1, some (.lst (s.puts.map encE)), a3, a4, a5, some (.lst (lD l)), a7]).x st = some (.ok (.f (lD (l.map s.let))), st) := by
  rw [comp_all (x := x__law_told_4) (l := l) (f := nD) (src := .fix (lD l)) (gg := fun n => nD (s.let n)) rfl (by simp) rfl rfl hn (fun n hm => by
    have h := hl n hm
    simp [nD, puts_at h, encE])]
  simp [lD, List.map_map, Function.comp_def]
theorem law_told_ok {k : Nat} {st : Store} (r : List Ev) (hr : Fit r {}) : calls TT (k + 2) "_law_told" [enc r] st = some (.ok (tr r).told, st) := by
  have w := tr_wf hr
  rw [at__law_told]
  have h0 := rd_len hr false
  have h1 := rd_len hr true
  have w0 := w.rd false
  have w1 := w.rd true
  simp only [S.rd] at h0 h1 w0 w1
  simp at h0 h1 w0 w1
  have t0 := fun a0 a1 a3 a4 a5 a7 => told_4 (cf := calls TT (k + 1)) (st := st) (tr r).r0 w0 (by omega) a0 a1 a3 a4 a5 a7
  have t1 := fun a0 a1 a3 a4 a5 a7 => told_4 (cf := calls TT (k + 1)) (st := st) (tr r).r1 w1 (by omega) a0 a1 a3 a4 a5 a7
  have e0 := eqD_two (st := st) (tr r).r0 (tr r).r1 [] []
  have e1 := eqD_lst (st := st) (tr r).r0 []
  have e2 := eqD_lst (st := st) (tr r).r1 []
  have z : lD [] = [] := rfl
  rw [z] at e0 e1 e2
  simp [d__law_told, c__law_told, track_ok r hr, x__law_told_1, x__law_told_2, x__law_told_3, x__law_told_5, compGo, t0, t1, e0, e1, e2, overD, ints_lD]
  have hf := fin_same (st := st) (d := (tr r).told) (by simp [S.told, noL_lD, enc, sawD]; exact ⟨noL_enc _, noLs_map (f := fun l => D.tup (lD l)) (fun l => noL_lD l) _⟩)
  simpa [S.told, S.lets, enc, S.rd] using hf
end K02

namespace K02
open PySem Cl
open L2 (atI ixN)
/-! ### is_run -/
theorem bls_map {α : Type} (p : α → Bool) : ∀ l : List α, bls? (l.map fun a => D.bl (p a)) = some (l.map p)
  | [] => rfl
  | a :: l => by simp [bls?, bls_map p l]
theorem x_is_run_ok {cf : CF} {st : Store} (xs : List D) (p : D → Bool) (hl : xs.length ≤ 100000) (h : ∀ d ∈ xs, cf "is_event" [d] st = some (.ok (.bl (p d)), st)) (a1 a2 a3 a4 : Option D) :
    (ev cf x_is_run_1 [some (.tup xs), a1, a2, a3, a4]).x st = some (.ok (.f (xs.map fun d => D.bl (p d))), st) :=
  comp_all (x := x_is_run_1) (l := xs) (f := fun d => d) (src := .fix xs) (gg := fun d => D.bl (p d)) rfl (by simp [overD]) (by simp) rfl hl (fun d hd => by simp [h d hd])
theorem is_run_bad {k : Nat} {st : Store} (xs : List D) (p : D → Bool) (hl : xs.length ≤ 100000) (h : ∀ d ∈ xs, calls TT (k + 2) "is_event" [d] st = some (.ok (.bl (p d)), st)) (hb : xs.all p = false) :
    calls TT (k + 3) "is_run" [.tup xs] st = some (.ok (.bl false), st) := by
  rw [at_is_run]
  simp [d_is_run, c_is_run, x_is_run_ok xs p hl h, bls_map, Function.comp_def]
  have : (xs.map p).all id = false := by rw [← hb, List.all_map]; rfl
  have hb2 : ∃ x, x ∈ xs ∧ p x = false := by simpa using hb
  simp [hb2]
  exact fin_same rfl
theorem is_run_lst {k : Nat} {st : Store} (xs : List D) : calls TT (k + 3) "is_run" [.lst xs] st = some (.ok (.bl false), st) := by
  rw [at_is_run]
  simp [d_is_run, c_is_run]
  exact fin_same rfl
def stepU (u : Nat × Nat) (e : Ev) : Option (Nat × Nat) :=
  if 0 < e.2 then some (if e.1 then (u.1 + 1, u.2) else (u.1, u.2 + 1)) else if e.1 then (if u.2 = 0 then none else some (u.1, u.2 - 1)) else (if u.1 = 0 then none else some (u.1 - 1, u.2))
def InvU (run : D) (st0 : Store) (u : Nat × Nat) (env : Cl.Env) (st : Store) : Prop :=
  ∃ a b c, env = [some run, some (.loc st0.length), a, b, c] ∧ st = st0 ++ [.lst [.int (u.1 : Nat), .int (u.2 : Nat)]]
def PostU (st0 : Store) (o : Out) : Prop := ∃ t, o = .rt (.bl false) (st0 ++ t)
theorem run_turn {cf : CF} {run : D} {st0 : Store} (u : Nat × Nat) (e : Ev) (env : Cl.Env) (st : Store) (h : InvU run st0 u env st) :
    match stepU u e with
      | some y => ∃ env' st', turnS cf (.tup (.cons (.nm 2) (.cons (.nm 3) .nil))) b_is_run_1 (encE e) env st = some (.nx env' st') ∧ InvU run st0 y env' st'
      | none => ∃ d st', turnS cf (.tup (.cons (.nm 2) (.cons (.nm 3) .nil))) b_is_run_1 (encE e) env st = some (.rt d st') ∧ PostU st0 (.rt d st') := by
  obtain ⟨a, b, c, rfl, rfl⟩ := h
  obtain ⟨own, n⟩ := e
  obtain ⟨u0, u1⟩ := u
  by_cases hp : 0 < n
  · cases own <;> simp [stepU, hp, b_is_run_1, encE, InvU]
  · have : n = 0 := by omega
    subst this
    cases own
    · by_cases h0 : u0 = 0
      · simp [stepU, hp, b_is_run_1, encE, PostU, h0]
        exact ⟨_, _, ⟨rfl, rfl⟩, rfl, _, rfl⟩
      · obtain ⟨m, rfl⟩ := Nat.exists_eq_succ_of_ne_zero h0
        have z : ¬ (m : Int) + 1 = 0 := by omega
        simp [stepU, hp, b_is_run_1, encE, InvU, z]
        try omega
    · by_cases h0 : u1 = 0
      · simp [stepU, hp, b_is_run_1, encE, PostU, h0]
        exact ⟨_, _, ⟨rfl, rfl⟩, rfl, _, rfl⟩
      · obtain ⟨m, rfl⟩ := Nat.exists_eq_succ_of_ne_zero h0
        have z : ¬ (m : Int) + 1 = 0 := by omega
        simp [stepU, hp, b_is_run_1, encE, InvU, z]
        try omega
theorem is_run_gen {k : Nat} {st : Store} (r : List Ev) (hl : r.length ≤ 100000) : calls TT (k + 3) "is_run" [enc r] st = some (.ok (.bl (r.foldlM stepU (0, 0)).isSome), st) := by
  have t := frs_opt (cf := calls TT (k + 2)) (s := l_is_run_1) (l := r) (f := encE) (src := .fix (r.map encE)) (env := [some (enc r), some (.loc st.length), none, none, none]) (st := st ++ [.lst [.int 0, .int 0]])
    (fun _ _ => True) (InvU (enc r) st) stepU (PostU st) (0, 0) rfl (evI_over rfl) rfl (fun _ _ _ _ => rfl) trivial ⟨none, none, none, rfl, rfl⟩ (fun u e l env st' _ i => by
      have := run_turn (cf := calls TT (k + 2)) u e env st' i
      revert this
      cases stepU u e with
      | none => exact fun z => z
      | some y => exact fun ⟨env', st2, e1, i1⟩ => ⟨env', st2, .inl e1, i1, trivial⟩)
  have x := fun a1 a2 a3 a4 => x_is_run_ok (cf := calls TT (k + 2)) (st := st) (r.map encE) (fun _ => true) (by simpa using hl) (by
    intro d hd
    obtain ⟨e, _, rfl⟩ := List.mem_map.mp hd
    exact is_event_ok e) a1 a2 a3 a4
  rw [at_is_run]
  have b : bls? (List.map ((fun d => D.bl true) ∘ encE) r) = some (r.map fun _ => true) := bls_map (fun _ => true) r
  simp only [enc] at t
  simp [d_is_run, c_is_run, enc, x, b]
  revert t
  cases r.foldlM stepU (0, 0) with
  | none =>
    rintro ⟨d, st', e, t, h⟩
    simp only [Out.rt.injEq] at h
    obtain ⟨rfl, rfl⟩ := h
    simp [e]
    exact fin_app (d := .bl _) rfl
  | some y =>
    rintro ⟨env', st', e, a, b, c, rfl, rfl⟩
    simp [e]
    exact fin_app (d := .bl _) rfl
theorem foldU : ∀ (r : List Ev) (s : S), Ok r s → r.foldlM stepU (s.r0.length, s.r1.length) = some ((r.foldl S.step s).r0.length, (r.foldl S.step s).r1.length)
  | [], s, _ => rfl
  | e :: r, s, h => by
    obtain ⟨h1, h2⟩ := h
    have key : stepU (s.r0.length, s.r1.length) e = some ((s.step e).r0.length, (s.step e).r1.length) := by
      have t0 := step_rd h1 false
      have t1 := step_rd h1 true
      simp only [S.rd] at t0 t1
      simp at t0 t1
      rw [t0, t1]
      obtain ⟨own, n⟩ := e
      by_cases hp : 0 < n
      · cases own <;> simp [stepU, hp]
      · have hr : s.rd own ≠ [] := h1.resolve_left hp
        cases own
        · have : s.r0 ≠ [] := hr
          simp [stepU, hp, this]
        · have : s.r1 ≠ [] := hr
          simp [stepU, hp, this]
    rw [List.foldlM_cons, key, List.foldl_cons]
    exact foldU r (s.step e) h2
theorem is_run_ok {k : Nat} {st : Store} (r : List Ev) (hr : Fit r {}) : calls TT (k + 3) "is_run" [enc r] st = some (.ok (.bl true), st) := by
  rw [is_run_gen r (by have := hr.len; omega)]
  have := foldU r {} hr.1
  simp at this
  rw [this]
  rfl
theorem is_run_snoc {k : Nat} {st : Store} (r : List Ev) (hr : Fit r {}) (e : Ev) : calls TT (k + 3) "is_run" [enc (r ++ [e])] st = some (.ok (.bl (decide (0 < e.2 ∨ (tr r).rd e.1 ≠ []))), st) := by
  rw [is_run_gen _ (by have := hr.len; simp; omega)]
  have := foldU r {} hr.1
  simp at this
  rw [List.foldlM_append, this]
  obtain ⟨own, n⟩ := e
  have t : tr r = r.foldl S.step {} := rfl
  rw [← t]
  by_cases hp : 0 < n
  · cases own <;> simp [stepU, hp]
  · have : n = 0 := by omega
    subst this
    cases own
    · by_cases h0 : (tr r).r0 = [] <;> simp [stepU, S.rd, h0]
    · by_cases h0 : (tr r).r1 = [] <;> simp [stepU, S.rd, h0]
end K02

namespace K02
open PySem Cl
open L2 (atI ixN)
/-! ### bent runs -/
def isEvD : D → Bool
  | .tup [.int a, .int b] => decide ((a = 0 ∨ a = 1) ∧ 0 ≤ b)
  | _ => false
theorem is_run_bent {k : Nat} {st : Store} (r : List Ev) (hr : r.length ≤ 1000) (bad : D) (h : calls TT (k + 2) "is_event" [bad] st = some (.ok (.bl false), st)) (hp : isEvD bad = false) :
    calls TT (k + 3) "is_run" [.tup (r.map encE ++ [bad])] st = some (.ok (.bl false), st) := by
  have he : ∀ e : Ev, isEvD (encE e) = true := by
    intro ⟨own, n⟩
    cases own <;> simp [isEvD, encE]
  refine is_run_bad _ isEvD (by simp; omega) (fun d hd => ?_) (by simp [hp])
  rcases List.mem_append.mp hd with z | z
  · obtain ⟨e, _, rfl⟩ := List.mem_map.mp z
    rw [is_event_ok, he]
  · simp at z
    subst z
    rw [h, hp]
section
variable {k : Nat} {st : Store}
theorem ev_bad_1 : calls TT (k + 2) "is_event" [.tup [.int 2, .int 1]] st = some (.ok (.bl false), st) := by
  rw [at_is_event]
  have e := is_tuple_of_tup (k := k) (st := st) [.int 2, .int 1] 2
  have i1 : inD st (.int 2) (.tup [.int 0, .int 1]) = some false := by rw [inD_tup rfl rfl rfl rfl]; rfl
  simp at e
  simp [d_is_event, c_is_event, e, is_number_ok, i1]
  exact fin_same rfl
theorem ev_bad_2 : calls TT (k + 2) "is_event" [.tup [.int 0, .int (-1)]] st = some (.ok (.bl false), st) := by
  rw [at_is_event]
  have e := is_tuple_of_tup (k := k) (st := st) [.int 0, .int (-1)] 2
  have i1 : inD st (.int 0) (.tup [.int 0, .int 1]) = some true := by rw [inD_tup rfl rfl rfl rfl]; rfl
  simp at e
  simp [d_is_event, c_is_event, e, is_number_ok, i1]
  exact fin_same rfl
theorem ev_bad_3 : calls TT (k + 2) "is_event" [.tup [.int 0, .bl true]] st = some (.ok (.bl false), st) := by
  rw [at_is_event]
  have e := is_tuple_of_tup (k := k) (st := st) [.int 0, .bl true] 2
  have n1 : calls TT (k + 1) "is_number" [.bl true] st = some (.ok (.bl false), st) := by
    rw [at_is_number]
    simp [d_is_number, c_is_number]
    exact fin_same rfl
  simp at e
  simp [d_is_event, c_is_event, e, is_number_ok, n1]
  exact fin_same rfl
theorem ev_bad_4 : calls TT (k + 2) "is_event" [.lst [.int 0, .int 1]] st = some (.ok (.bl false), st) := by
  rw [at_is_event]
  have e : calls TT (k + 1) "is_tuple_of" [.lst [.int 0, .int 1], .int 2] st = some (.ok (.bl false), st) := by
    rw [at_is_tuple_of]
    simp [d_is_tuple_of, c_is_tuple_of]
    exact fin_same rfl
  simp [d_is_event, c_is_event, e]
  exact fin_same rfl
theorem ev_bad_5 : calls TT (k + 2) "is_event" [.tup [.int 0]] st = some (.ok (.bl false), st) := by
  rw [at_is_event]
  have e := is_tuple_of_tup (k := k) (st := st) [.int 0] 2
  simp at e
  simp [d_is_event, c_is_event, e]
  exact fin_same rfl
end
/-! ### tuple_of, _is_row -/
theorem tuple_of_int {k : Nat} {st : Store} (i : Int) : calls TT (k + 1) "tuple_of" [.int i] st = some (.ok (.int i), st) := by
  rw [at_tuple_of]
  simp [d_tuple_of, c_tuple_of]
  exact fin_same rfl
theorem tuple_of_ok {k : Nat} {st : Store} (l : List Nat) (hl : l.length ≤ 100000) : calls TT (k + 2) "tuple_of" [.tup (lD l)] st = some (.ok (.tup (lD l)), st) := by
  rw [at_tuple_of]
  have x := comp_all (cf := calls TT (k + 1)) (x := x_tuple_of_1) (l := l) (f := nD) (src := .fix (lD l)) (env := [some (.tup (lD l)), none]) (st := st) (gg := nD) rfl (by simp [overD]) rfl rfl hl (fun n _ => by simp [nD, tuple_of_int])
  simp [d_tuple_of, c_tuple_of, x]
  exact fin_same (d := .tup (lD l)) (noL_lD l)
theorem is_row_ok {k : Nat} {st : Store} (l : List Nat) (hl : l.length ≤ 100000) : calls TT (k + 2) "_is_row" [.tup (lD l)] st = some (.ok (.bl true), st) := by
  rw [at__is_row]
  have x := comp_all (cf := calls TT (k + 1)) (x := x__is_row_1) (l := l) (f := nD) (src := .fix (lD l)) (env := [some (.tup (lD l)), none]) (st := st) (gg := fun _ => .bl true) rfl (by simp [overD]) rfl rfl hl (fun n _ => by simp [nD, is_number_ok])
  have b := bls_map (fun _ : Nat => true) l
  simp [d__is_row, c__is_row, x, b]
  have z : (l.all fun _ => true) = true := by simp
  rw [z]
  exact fin_same rfl
end K02

namespace K02
open PySem Cl
open L2 (atI ixN)
/-! ### _puts -/
abbrev Pt := Ev × Nat × Nat
structure Q where
  ps : List Pt := []
  h0 : Nat := 0
  h1 : Nat := 0
  m0 : Nat := 0
  m1 : Nat := 0
def encQ (x : Pt) : D := .tup [.int (sd x.1.1), .int (x.1.2 : Nat), .int (x.2.1 : Nat), .int (x.2.2 : Nat)]
def Q.h (q : Q) (b : Bool) : Nat := if b then q.h1 else q.h0
def Q.m (q : Q) (b : Bool) : Nat := if b then q.m1 else q.m0
def Q.step (q : Q) (e : Ev) : Q :=
  if 0 < e.2 then
    let t := { q with ps := q.ps ++ [(e, q.h e.1, q.m e.1)] }
    if e.1 then { t with m1 := q.m1 + 1 } else { t with m0 := q.m0 + 1 }
  else if e.1 then { q with h1 := q.h1 + 1 } else { q with h0 := q.h0 + 1 }
def quads (r : List Ev) : Q := r.foldl Q.step {}
theorem Q.step_len (q : Q) (e : Ev) : (q.step e).ps.length ≤ q.ps.length + 1 := by
  obtain ⟨own, n⟩ := e
  by_cases hp : 0 < n <;> cases own <;> simp [Q.step, hp]
def InvQ (run : D) (st0 : Store) (q : Q) (env : Cl.Env) (st : Store) : Prop :=
  ∃ (a b : Option D), env = [some run, some (.loc st0.length), some (.loc (st0.length + 1)), some (.loc (st0.length + 2)), a, b] ∧
    st = st0 ++ [.lst (q.ps.map encQ), .lst [.int (q.h0 : Nat), .int (q.h1 : Nat)], .lst [.int (q.m0 : Nat), .int (q.m1 : Nat)]]
theorem puts_turn {cf : CF} {run : D} {st0 : Store} (q : Q) (e : Ev) (env : Cl.Env) (st : Store) (hl : q.ps.length ≤ 100000) (h : InvQ run st0 q env st) :
    ∃ env' st', turnS cf (.tup (.cons (.nm 4) (.cons (.nm 5) .nil))) b__puts_1 (encE e) env st = some (.nx env' st') ∧ InvQ run st0 (q.step e) env' st' := by
  obtain ⟨a, b, rfl, rfl⟩ := h
  obtain ⟨own, n⟩ := e
  by_cases hp : 0 < n
  · cases own
    · simp [b__puts_1, encE, hp, hl, Q.step, and_assoc]
      exact ⟨_, _, rfl, by simp [encQ, Q.h, Q.m]⟩
    · simp [b__puts_1, encE, hp, hl, Q.step, and_assoc]
      exact ⟨_, _, rfl, by simp [encQ, Q.h, Q.m]⟩
  · have : n = 0 := by omega
    subst this
    cases own
    · simp [b__puts_1, encE, hl, Q.step, and_assoc]
      exact ⟨_, _, rfl, by simp [encQ, Q.h, Q.m]⟩
    · simp [b__puts_1, encE, hl, Q.step, and_assoc]
      exact ⟨_, _, rfl, by simp [encQ, Q.h, Q.m]⟩
theorem noL_encQ (l : List Pt) : noLs (l.map encQ) = true := noLs_map (fun _ => rfl) l
theorem quads_ok {k : Nat} {st : Store} (r : List Ev) (hr : r.length ≤ 1000) : calls TT (k + 1) "_puts" [enc r] st = some (.ok (.tup ((quads r).ps.map encQ)), st) := by
  rw [at__puts]
  obtain ⟨env', st', e, a, b, rfl, rfl⟩ := frs_ok (cf := calls TT k) (s := l__puts_1) (l := r) (f := encE) (src := .fix (r.map encE)) (env := [some (enc r), some (.loc st.length), some (.loc (st.length + 1)), some (.loc (st.length + 2)), none, none]) (st := st ++ [.lst [], .lst [.int 0, .int 0], .lst [.int 0, .int 0]])
    (fun l q => q.ps.length + l.length ≤ 1000) (InvQ (enc r) st) Q.step {} rfl (evI_over rfl) rfl (fun _ _ _ _ => rfl) (by simpa using hr) ⟨none, none, rfl, rfl⟩ (fun q e l env st' p i => by
      rw [List.length_cons] at p
      obtain ⟨env', st2, e1, i1⟩ := puts_turn (cf := calls TT k) q e env st' (by omega) i
      have := q.step_len e
      exact ⟨env', st2, .inl e1, i1, by omega⟩)
  simp [d__puts, c__puts]
  rw [e]
  simp
  exact fin_app (noL_encQ _)
end K02

namespace K02
open PySem Cl
open L2 (atI ixN)
/-! ### rising lists -/
abbrev Asc (l : List Nat) : Prop := l.Pairwise (· < ·)
theorem asc_ext : ∀ {a b : List Nat}, Asc a → Asc b → (∀ x, x ∈ a ↔ x ∈ b) → a = b
  | [], [], _, _, _ => rfl
  | [], y :: b, _, _, h => absurd ((h y).mpr List.mem_cons_self) (by simp)
  | x :: a, [], _, _, h => absurd ((h x).mp List.mem_cons_self) (by simp)
  | x :: a, y :: b, ha, hb, h => by
    have ha' := List.pairwise_cons.mp ha
    have hb' := List.pairwise_cons.mp hb
    have e : x = y := by
      rcases List.mem_cons.mp ((h x).mp List.mem_cons_self) with z | z
      · exact z
      · rcases List.mem_cons.mp ((h y).mpr List.mem_cons_self) with w | w
        · exact w.symm
        · have := ha'.1 y w; have := hb'.1 x z; omega
    subst e
    congr 1
    refine asc_ext ha'.2 hb'.2 fun z => ⟨fun m => ?_, fun m => ?_⟩
    · rcases List.mem_cons.mp ((h z).mp (List.mem_cons_of_mem _ m)) with w | w
      · have := ha'.1 z m; omega
      · exact w
    · rcases List.mem_cons.mp ((h z).mpr (List.mem_cons_of_mem _ m)) with w | w
      · have := hb'.1 z m; omega
      · exact w
theorem insI_sorted (x : Int) : ∀ {l : List Int}, l.Pairwise (· ≤ ·) → (insI x l).Pairwise (· ≤ ·)
  | [], _ => by simp [insI]
  | y :: l, h => by
    have h' := List.pairwise_cons.mp h
    unfold insI
    split
    · rename_i c
      refine List.pairwise_cons.mpr ⟨fun z hz => ?_, h⟩
      rcases List.mem_cons.mp hz with w | w
      · omega
      · have := h'.1 z w; omega
    · rename_i c
      refine List.pairwise_cons.mpr ⟨fun z hz => ?_, insI_sorted x h'.2⟩
      have key : ∀ (l : List Int) z, z ∈ insI x l → z = x ∨ z ∈ l := by
        intro l
        induction l with
        | nil => intro z hz; simp [insI] at hz; exact .inl hz
        | cons a l ih =>
          intro z hz
          unfold insI at hz
          split at hz
          · simpa using hz
          · rcases List.mem_cons.mp hz with w | w
            · simp [w]
            · rcases ih z w with v | v
              · exact .inl v
              · simp [v]
      rcases key l z hz with w | w
      · omega
      · exact h'.1 z w
theorem srtI_sorted : ∀ (l : List Int), (srtI l).Pairwise (· ≤ ·)
  | [] => List.Pairwise.nil
  | x :: l => insI_sorted x (srtI_sorted l)
theorem srtN_mem (l : List Nat) (n : Nat) : n ∈ srtN l ↔ n ∈ l := by
  unfold srtN
  rw [((srtI_perm (l.map Int.ofNat)).map Int.toNat).mem_iff]
  simp [List.map_map, Function.comp_def]
theorem srtN_asc {l : List Nat} (h : l.Nodup) : Asc (srtN l) := by
  have p : (srtN l).Perm l := by
    have := (srtI_perm (l.map Int.ofNat)).map Int.toNat
    simpa [List.map_map, Function.comp_def, srtN] using this
  have s : (srtN l).Pairwise (· ≤ ·) := by
    unfold srtN
    rw [List.pairwise_map]
    exact (srtI_sorted _).imp fun h => by omega
  have n : (srtN l).Nodup := (p.nodup_iff).mpr h
  exact (s.and n).imp fun ⟨a, b⟩ => by omega
theorem srtN_eq {l m : List Nat} (h : l.Nodup) (hm : Asc m) (e : ∀ x, x ∈ l ↔ x ∈ m) : srtN l = m :=
  asc_ext (srtN_asc h) hm fun x => by rw [srtN_mem, e]
theorem srtN_self {l : List Nat} (h : Asc l) : srtN l = l := srtN_eq (h.imp fun h => by omega) h fun _ => Iff.rfl
theorem asc_range (n : Nat) : Asc (List.range n) := List.pairwise_lt_range
theorem asc_filter {l : List Nat} (p : Nat → Bool) (h : Asc l) : Asc (l.filter p) := h.filter p
theorem asc_nodup {l : List Nat} (h : Asc l) : l.Nodup := h.imp fun h => by omega
theorem nodup_two {l : List Nat} (f : Nat → Bool) (h1 : (l.filter f).Nodup) (h2 : (l.filter fun x => !f x).Nodup) : l.Nodup := by
  induction l with
  | nil => exact List.nodup_nil
  | cons a l ih =>
    cases c : f a with
    | true =>
      simp only [List.filter_cons, c, if_true, Bool.not_true] at h1 h2
      simp at h2
      have h1' := List.nodup_cons.mp h1
      refine List.nodup_cons.mpr ⟨fun z => h1'.1 (List.mem_filter.mpr ⟨z, c⟩), ih h1'.2 h2⟩
    | false =>
      simp only [List.filter_cons, c, Bool.not_false, if_true] at h1 h2
      simp at h1
      have h2' := List.nodup_cons.mp h2
      refine List.nodup_cons.mpr ⟨fun z => h2'.1 (List.mem_filter.mpr ⟨z, by simp [c]⟩), ih h1 h2'.2⟩
/-- the first h that fit: those with fewer than h ahead -/
theorem mem_take_filter (f : Nat → Bool) (h : Nat) : ∀ (p i : Nat), i ∈ ((List.range p).filter f).take h ↔ i < p ∧ f i = true ∧ ((List.range i).filter f).length < h
  | 0, i => by simp
  | p + 1, i => by
    rw [List.range_succ, List.filter_append, List.take_append, List.mem_append, mem_take_filter f h p i]
    cases c : f p with
    | false =>
      simp only [List.filter_cons, c, List.filter_nil]
      simp
      intro b _
      have : i ≠ p := by
        intro z
        subst z; rw [b] at c; cases c
      omega
    | true =>
      simp only [List.filter_cons, c, List.filter_nil, if_true]
      constructor
      · rintro (⟨a, b, d⟩ | z)
        · exact ⟨by omega, b, d⟩
        · by_cases e : h - ((List.range p).filter f).length = 0
          · rw [e] at z; simp at z
          · have : i = p := by simpa using List.mem_of_mem_take z
            subst this
            exact ⟨by omega, c, by omega⟩
      · rintro ⟨a, b, d⟩
        rcases Nat.lt_succ_iff_lt_or_eq.mp a with z | z
        · exact .inl ⟨z, b, d⟩
        · subst z
          refine .inr ?_
          obtain ⟨m, e⟩ : ∃ m, h - ((List.range i).filter f).length = m + 1 := ⟨h - ((List.range i).filter f).length - 1, by omega⟩
          rw [e]; simp
end K02

namespace K02
open PySem Cl
open L2 (atI ixN)
/-! ### what the quads tell of the run -/
def Q.rk (q : Q) (n : Nat) : Nat := (q.ps.getD n ((false, 0), 0, 0)).2.2
def Q.hd (q : Q) (n : Nat) : Nat := (q.ps.getD n ((false, 0), 0, 0)).2.1
/-- put j has seen put i -/
def sees (s : S) (q : Q) (j i : Nat) : Bool := s.own i == s.own j || decide (q.rk i < q.hd j)
structure J (s : S) (q : Q) : Prop where
  wf : WF s
  ev : q.ps.map (·.1) = s.puts
  ch : ∀ b, q.h b = ((s.kn b).filter fun n => s.own n != b).length
  cm : ∀ b, q.m b = (s.idx b).length
  len : s.saw.length = s.puts.length
  rk : ∀ j, j < s.puts.length → q.rk j = ((List.range j).filter fun i => s.own i == s.own j).length
  hd : ∀ j, j < s.puts.length → q.hd j ≤ ((List.range j).filter fun i => s.own i != s.own j).length
  saw : ∀ j, j < s.puts.length → s.saw[j]? = some ((List.range j).filter (sees s q j))
theorem J.nil : J {} {} := ⟨WF.nil, rfl, fun b => by cases b <;> rfl, fun b => by cases b <;> rfl, rfl, fun j h => by simp at h, fun j h => by simp at h, fun j h => by simp at h⟩
theorem kn_take {s : S} (w : WF s) (b : Bool) : (s.kn b).filter (fun n => s.own n != b) = (s.idx (!b)).take ((s.kn b).filter fun n => s.own n != b).length := by
  rw [w.fifo b, List.take_left' rfl]
theorem kn_nodup {s : S} (w : WF s) (b : Bool) : (s.kn b).Nodup := by
  have h0 : Asc (s.idx b) := asc_filter _ (asc_range _)
  have h1 : Asc (s.idx (!b)) := asc_filter _ (asc_range _)
  refine nodup_two (fun n => s.own n == b) ?_ ?_
  · rw [← w.own b]; exact asc_nodup h0
  · rw [w.fifo b] at h1
    have := asc_nodup (List.pairwise_append.mp h1).1
    simpa [bne] using this
theorem ne_not {a b : Bool} : (a != b) = (a == !b) := by cases a <;> cases b <;> rfl
theorem kn_mem {s : S} {q : Q} (j : J s q) (b : Bool) (x : Nat) : x ∈ s.kn b ↔ x < s.puts.length ∧ (s.own x = b ∨ q.rk x < q.h b) := by
  have w := j.wf
  have hb := kn_take w b
  rw [← j.ch b] at hb
  have key : s.own x ≠ b → (x ∈ s.kn b ↔ x < s.puts.length ∧ ((List.range x).filter fun i => s.own i == !b).length < q.h b) := by
    intro hx
    have e1 : x ∈ s.kn b ↔ x ∈ (s.kn b).filter (fun n => s.own n != b) := by rw [List.mem_filter]; simp [hx]
    rw [e1, hb]
    unfold S.idx
    rw [mem_take_filter]
    have : (s.own x == !b) = true := by rw [← ne_not]; simpa using hx
    simp [this]
  by_cases hx : s.own x = b
  · have e1 : x ∈ s.kn b ↔ x ∈ (s.kn b).filter (fun n => s.own n == b) := by rw [List.mem_filter]; simp [hx]
    rw [e1, ← w.own b]
    simp [S.idx, hx]
  · rw [key hx]
    simp only [hx, false_or]
    constructor
    · rintro ⟨h1, h2⟩
      refine ⟨h1, ?_⟩
      rw [j.rk x h1]
      have : s.own x = !b := by cases h : s.own x <;> cases b <;> simp_all
      rw [this]; exact h2
    · rintro ⟨h1, h2⟩
      refine ⟨h1, ?_⟩
      rw [j.rk x h1] at h2
      have : s.own x = !b := by cases h : s.own x <;> cases b <;> simp_all
      rw [this] at h2; exact h2
theorem qstep_ps (q : Q) (e : Ev) : (q.step e).ps = if 0 < e.2 then q.ps ++ [(e, q.h e.1, q.m e.1)] else q.ps := by
  obtain ⟨own, n⟩ := e
  by_cases hp : 0 < n <;> cases own <;> simp [Q.step, hp]
theorem qstep_h (q : Q) (e : Ev) (b : Bool) : (q.step e).h b = if 0 < e.2 then q.h b else if b = e.1 then q.h b + 1 else q.h b := by
  obtain ⟨own, n⟩ := e
  by_cases hp : 0 < n <;> cases own <;> cases b <;> simp [Q.step, Q.h, hp]
theorem qstep_m (q : Q) (e : Ev) (b : Bool) : (q.step e).m b = if 0 < e.2 ∧ b = e.1 then q.m b + 1 else q.m b := by
  obtain ⟨own, n⟩ := e
  by_cases hp : 0 < n <;> cases own <;> cases b <;> simp [Q.step, Q.m, hp]
theorem filter_lt {s : S} {e : Ev} {j : Nat} (h : j ≤ s.puts.length) (p : Bool → Bool) : ((List.range j).filter fun i => p ((s.step e).own i)) = (List.range j).filter fun i => p (s.own i) :=
  filter_own (fun n hn => by have := List.mem_range.mp hn; omega) p
theorem J.step {s : S} {q : Q} {e : Ev} (j : J s q) (h : okE s e) : J (s.step e) (q.step e) := by
  have w := j.wf
  have hq : q.ps.length = s.puts.length := by rw [← j.ev, List.length_map]
  obtain ⟨own, n⟩ := e
  by_cases hp : 0 < n
  · have hl : (s.step (own, n)).puts.length = s.puts.length + 1 := by rw [step_puts, if_pos hp]; simp
    have hnum : s.num (own, n) = s.puts.length := by simp [S.num, hp]
    have hnew := own_new (s := s) (e := (own, n)) hp
    have rkl : ∀ i, i < s.puts.length → (q.step (own, n)).rk i = q.rk i := fun i hi => by
      unfold Q.rk
      rw [qstep_ps, if_pos hp]
      simp [List.getElem?_append_left (show i < q.ps.length by omega)]
    have hdl : ∀ i, i < s.puts.length → (q.step (own, n)).hd i = q.hd i := fun i hi => by
      unfold Q.hd
      rw [qstep_ps, if_pos hp]
      simp [List.getElem?_append_left (show i < q.ps.length by omega)]
    have rkn : (q.step (own, n)).rk s.puts.length = q.m own := by
      unfold Q.rk
      rw [qstep_ps, if_pos hp, ← hq]
      simp
    have hdn : (q.step (own, n)).hd s.puts.length = q.h own := by
      unfold Q.hd
      rw [qstep_ps, if_pos hp, ← hq]
      simp
    refine ⟨w.step h, ?_, fun b => ?_, fun b => ?_, ?_, fun i hi => ?_, fun i hi => ?_, fun i hi => ?_⟩
    · rw [qstep_ps, step_puts, if_pos hp, if_pos hp, List.map_append, j.ev]; rfl
    · rw [qstep_h, if_pos hp, j.ch b, step_kn h]
      by_cases c : b = own
      · subst c
        simp only [if_true, List.filter_append, filter_own (w.kn b) (fun x => x != b), hnum, List.filter_cons, hnew, List.filter_nil]
        simp
      · simp only [if_neg c, filter_own (w.kn b) (fun x => x != b)]
    · rw [qstep_m, idx_put hp, j.cm b]
      by_cases c : b = own
      · subst c; simp [hp]
      · have c2 : ¬ own = b := fun z => c z.symm
        simp [c, c2]
    · rw [step_saw, if_pos hp, hl]; simp [j.len]
    · rw [hl] at hi
      rcases Nat.lt_succ_iff_lt_or_eq.mp hi with z | z
      · rw [rkl i z, j.rk i z, own_lt z, filter_lt (by omega) (fun x => x == s.own i)]
      · subst z
        rw [rkn, j.cm own, hnew, filter_lt (by omega) (fun x => x == own)]
        rfl
    · rw [hl] at hi
      rcases Nat.lt_succ_iff_lt_or_eq.mp hi with z | z
      · rw [hdl i z, own_lt z, filter_lt (by omega) (fun x => x != s.own i)]
        exact j.hd i z
      · subst z
        rw [hdn, j.ch own, hnew, filter_lt (by omega) (fun x => x != own)]
        have e2 : ((List.range s.puts.length).filter fun i => s.own i != own) = s.idx (!own) := by
          unfold S.idx
          congr 1
          funext i
          exact ne_not
        rw [e2, w.fifo own, List.length_append]
        omega
    · rw [hl] at hi
      have cong : ∀ i, i ≤ s.puts.length → ∀ x, x ∈ List.range i → i < s.puts.length → sees (s.step (own, n)) (q.step (own, n)) i x = sees s q i x := by
        intro i hi x hx hi2
        have hx := List.mem_range.mp hx
        unfold sees
        rw [own_lt (show x < s.puts.length by omega), own_lt hi2, rkl x (by omega), hdl i hi2]
      rw [step_saw, if_pos hp]
      rcases Nat.lt_succ_iff_lt_or_eq.mp hi with z | z
      · rw [List.getElem?_append_left (by rw [j.len]; exact z), j.saw i z]
        congr 1
        exact (List.filter_congr fun x hx => cong i (by omega) x hx z).symm
      · subst z
        rw [List.getElem?_append_right (by rw [j.len]; omega), j.len, Nat.sub_self]
        simp only [List.getElem?_cons_zero, Option.some.injEq]
        refine srtN_eq (kn_nodup w own) (asc_filter _ (asc_range _)) fun x => ?_
        rw [kn_mem j own x, List.mem_filter, List.mem_range]
        constructor
        · rintro ⟨h1, h2⟩
          refine ⟨h1, ?_⟩
          unfold sees
          rw [own_lt h1, hnew, rkl x h1, hdn]
          simpa using h2
        · rintro ⟨h1, h2⟩
          unfold sees at h2
          rw [own_lt h1, hnew, rkl x h1, hdn] at h2
          exact ⟨h1, by simpa using h2⟩
  · have hr : s.rd own ≠ [] := h.resolve_left hp
    obtain ⟨x, r, hx⟩ := List.exists_cons_of_ne_nil hr
    have hpu : (s.step (own, n)).puts = s.puts := by rw [step_puts, if_neg hp]
    have hnum : s.num (own, n) = x := by simp [S.num, hp, hx]
    have hxl : x < s.puts.length := w.rd own x (by rw [hx]; exact List.mem_cons_self)
    have hxo : s.own x = !own := by
      have : x ∈ s.idx (!own) := by rw [w.fifo own, hx]; simp
      exact beq_iff_eq.mp (List.mem_filter.mp this).2
    have ho : (s.step (own, n)).own = s.own := by funext i; unfold S.own; rw [hpu]
    have hps : (q.step (own, n)).ps = q.ps := by rw [qstep_ps, if_neg hp]
    have hrk : (q.step (own, n)).rk = q.rk := by funext i; unfold Q.rk; rw [hps]
    have hhd : (q.step (own, n)).hd = q.hd := by funext i; unfold Q.hd; rw [hps]
    have hse : sees (s.step (own, n)) (q.step (own, n)) = sees s q := by funext i k; unfold sees; rw [ho, hrk, hhd]
    have hsa : (s.step (own, n)).saw = s.saw := by rw [step_saw, if_neg hp]
    refine ⟨w.step h, by rw [hps, hpu]; exact j.ev, fun b => ?_, fun b => ?_, by rw [hpu, hsa]; exact j.len, fun i hi => ?_, fun i hi => ?_, fun i hi => ?_⟩
    · rw [qstep_h, if_neg hp, j.ch b, step_kn h, ho]
      by_cases c : b = own
      · subst c; simp [hnum, hxo]
      · simp [c]
    · rw [qstep_m, idx_take hp, j.cm b]
      simp [hp]
    · rw [hpu] at hi; rw [hrk, ho]; exact j.rk i hi
    · rw [hpu] at hi; rw [hhd, ho]; exact j.hd i hi
    · rw [hpu] at hi; rw [hsa, hse]; exact j.saw i hi
theorem J.all : ∀ (r : List Ev) (s : S) (q : Q), J s q → Ok r s → J (r.foldl S.step s) (r.foldl Q.step q)
  | [], _, _, j, _ => j
  | e :: r, s, q, j, h => J.all r _ _ (j.step h.1) h.2
theorem tr_J {r : List Ev} (hr : Fit r {}) : J (tr r) (quads r) := J.all r {} {} J.nil hr.1
end K02

namespace K02
open PySem Cl
open L2 (atI ixN)
/-! ### _has_seen, free_pairs -/
theorem quad_at {s : S} {q : Q} (j : J s q) {n : Nat} (h : n < s.puts.length) : atI (q.ps.map encQ) (n : Int) = some (encQ ((s.own n, s.let n), q.hd n, q.rk n)) := by
  have hl : n < q.ps.length := by have := congrArg List.length j.ev; rw [List.length_map] at this; omega
  rw [atI_nat, List.getElem?_map, List.getElem?_eq_getElem hl]
  have e1 : s.puts[n]? = some (q.ps[n]).1 := by rw [← j.ev, List.getElem?_map, List.getElem?_eq_getElem hl]; rfl
  simp [S.own, S.let, e1, Q.hd, Q.rk, List.getElem?_eq_getElem hl]
theorem quad_len {s : S} {q : Q} (j : J s q) : q.ps.length = s.puts.length := by have := congrArg List.length j.ev; rwa [List.length_map] at this
theorem has_seen_ok {k : Nat} {st : Store} {s : S} {q : Q} (j : J s q) (l e : Nat) (hl : l < s.puts.length) (he : e < s.puts.length) :
    calls TT (k + 1) "_has_seen" [.tup (q.ps.map encQ), .int (l : Nat), .int (e : Nat)] st = some (.ok (.bl (sees s q l e)), st) := by
  rw [at__has_seen]
  by_cases h : s.own e = s.own l
  · simp [d__has_seen, c__has_seen, quad_at j hl, quad_at j he, encQ, h]
    have : sees s q l e = true := by simp [sees, h]
    rw [this]
    exact fin_same rfl
  · have h2 : ¬ sd (s.own e) = sd (s.own l) := by rw [sd_inj]; exact h
    simp [d__has_seen, c__has_seen, quad_at j hl, quad_at j he, encQ, h2, atI2, atI3]
    have : sees s q l e = decide (q.rk e < q.hd l) := by
      have : (s.own e == s.own l) = false := by simpa using h
      simp [sees, this]
    rw [this]
    exact fin_same rfl
theorem rngD_nat (a b : Nat) : rngD (a : Int) (b : Int) = lD (List.range' a (b - a)) := by
  have e : ((b : Int) - (a : Int)).toNat = b - a := by omega
  unfold rngD lD
  rw [e, List.range'_eq_map_range, List.map_map]
  apply List.map_congr_left
  intro k _
  simp [nD]
theorem okR_nat (n : Nat) (h : n ≤ 100000) : okR (n : Int) = true := by
  have h1 : (100000 : Int) < 2 ^ 62 := by decide
  have h2 : -(2 ^ 62 : Int) ≤ 0 := by decide
  unfold okR
  generalize (2 ^ 62 : Int) = w at h1 h2
  rw [Bool.and_eq_true]
  exact ⟨decide_eq_true (by omega), decide_eq_true (by omega)⟩
/-- the later puts that have not seen put i -/
def fr (s : S) (q : Q) (i : Nat) : List Nat := (List.range' (i + 1) (s.puts.length - (i + 1))).filter fun j => !sees s q j i
def prD (i : Nat) (l : List Nat) : List D := l.map fun j => .tup [nD i, nD j]
def fpD (s : S) (q : Q) : List D := (List.range s.puts.length).flatMap fun i => prD i (fr s q i)
theorem fr_len (s : S) (q : Q) (i : Nat) : (fr s q i).length ≤ s.puts.length := by
  unfold fr
  refine Nat.le_trans (List.length_filter_le _ _) ?_
  simp
theorem evI_two {cf : CF} {env : Cl.Env} {st : Store} {as : CA} (a b : Nat) (h : evA cf as env st = some (.ok [.int (a : Nat), .int (b : Nat)], st)) (ha : a ≤ 100000) (hb : b ≤ 100000) : evI cf (.rng as) env st = some (.ok (.fix (lD (List.range' a (b - a)))), st) := by
  rw [evI, Cl.bnd, h]
  dsimp only
  rw [okR_nat a ha, okR_nat b hb, rngD_nat]
  rfl
theorem evI_one {cf : CF} {env : Cl.Env} {st : Store} {as : CA} (b : Nat) (h : evA cf as env st = some (.ok [.int (b : Nat)], st)) (hb : b ≤ 100000) : evI cf (.rng as) env st = some (.ok (.fix (lD (List.range b))), st) := by
  rw [evI, Cl.bnd, h]
  dsimp only
  have e := rngD_nat 0 b
  rw [okR_nat b hb, List.range_eq_range']
  rw [show ((0 : Nat) : Int) = 0 from rfl] at e
  rw [e]
  rfl
theorem x_free_ok {k : Nat} {st : Store} {s : S} {q : Q} (j : J s q) (i : Nat) (hi : i < s.puts.length) (hl : s.puts.length ≤ 100) (a0 a3 a4 : Option D) :
    (ev (calls TT (k + 1)) x_free_pairs_1 [a0, some (nD i), some (.tup (q.ps.map encQ)), a3, a4]).x st = some (.ok (.f (prD i (fr s q i))), st) := by
  rw [comp_ok (x := x_free_pairs_1) (l := List.range' (i + 1) (s.puts.length - (i + 1))) (f := nD) (src := .fix (lD (List.range' (i + 1) (s.puts.length - (i + 1))))) (gg := fun j => if sees s q j i then none else some (.tup [nD i, nD j])) rfl (evI_two (i + 1) s.puts.length (by simp [quad_len j, nD]) (by omega) (by omega)) rfl rfl (by simp; omega) (fun n hn => by
      have hn := List.mem_range'.mp hn
      obtain ⟨m, h1, h2⟩ := hn
      have := has_seen_ok (k := k) (st := st) j n i (by omega) hi
      by_cases c : sees s q n i = true <;> simp [nD, this, c])]
  congr 4
  unfold prD fr
  generalize List.range' (i + 1) (s.puts.length - (i + 1)) = l
  induction l with
  | nil => rfl
  | cons a l ih => by_cases c : sees s q a i = true <;> simp [List.filterMap_cons, List.filter_cons, c, ih]
def InvF (run ps : D) (st0 : Store) (acc : List D) (env : Cl.Env) (st : Store) : Prop :=
  ∃ (a b : Option D), env = [some run, a, some ps, some (.loc st0.length), b] ∧ st = st0 ++ [.lst acc]
theorem foldl_flat {α β : Type} (f : α → List β) : ∀ (l : List α) (acc : List β), l.foldl (fun acc a => acc ++ f a) acc = acc ++ l.flatMap f
  | [], acc => by simp
  | a :: l, acc => by simp [foldl_flat f l]
def Few (acc : List D) (l : List Nat) : Prop := acc.length + 100 * l.length ≤ 10000
theorem few0 (l : List Nat) (h : l.length ≤ 100) : Few [] l := by
  have : ([] : List D).length = 0 := rfl
  unfold Few
  omega
theorem Few.le {acc : List D} {l : List Nat} {i : Nat} (h : Few acc (i :: l)) {x : List D} (hx : x.length ≤ 100) : acc.length + x.length ≤ 100000 := by
  unfold Few at h
  rw [List.length_cons] at h
  omega
theorem Few.step {acc : List D} {l : List Nat} {i : Nat} (h : Few acc (i :: l)) {x : List D} (hx : x.length ≤ 100) : Few (acc ++ x) l := by
  unfold Few at *
  rw [List.length_cons] at h
  rw [List.length_append]
  omega
theorem ext_turn {cf : CF} {e : CE} {st : Store} {acc ys : List D} {d : D} {a0 a1 a2 a4 : Option D} (x : (ev cf e [a0, some d, a2, some (.loc st.length), a4]).x (st ++ [.lst acc]) = some (.ok (.f ys), st ++ [.lst acc])) (hl : acc.length + ys.length ≤ 100000) :
    turnS cf (.nm 1) (.cons (.drop (.met .extend (.var 3) (.cons e .nil))) .nil) d [a0, a1, a2, some (.loc st.length), a4] (st ++ [.lst acc]) = some (.nx [a0, some d, a2, some (.loc st.length), a4] (st ++ [.lst (acc ++ ys)])) := by
  simp [x, hl]
theorem fp_turn {k : Nat} {st : Store} {s : S} {q : Q} (j : J s q) (run : D) (h100 : s.puts.length ≤ 100) (acc : List D) (i : Nat) (l : List Nat) (env : Cl.Env) (st' : Store) (p1 : Few acc (i :: l)) (hi : i < s.puts.length) (h : InvF run (.tup (q.ps.map encQ)) st acc env st') :
    ∃ env' st2, turnS (calls TT (k + 1)) (.nm 1) b_free_pairs_1 (nD i) env st' = some (.nx env' st2) ∧ InvF run (.tup (q.ps.map encQ)) st (acc ++ prD i (fr s q i)) env' st2 := by
  obtain ⟨a, b, rfl, rfl⟩ := h
  have x := x_free_ok (k := k) (st := st ++ [.lst acc]) j i hi h100
  have hl := fr_len s q i
  have hl3 : (prD i (fr s q i)).length ≤ 100 := by unfold prD; rw [List.length_map]; omega
  have hl2 := p1.le hl3
  refine ⟨[some run, some (nD i), some (.tup (q.ps.map encQ)), some (.loc st.length), b], st ++ [.lst (acc ++ prD i (fr s q i))], ?_, ⟨some (nD i), b, rfl, rfl⟩⟩
  exact ext_turn (x _ _ _) hl2
theorem fp_body {cf : CF} {s : CS} {st : Store} {run ps : D} {a b : Option D} {acc : List D} (q : cf "_puts" [run] st = some (.ok ps, st)) (e : evS cf s [some run, none, some ps, some (.loc st.length), none] (st ++ [.lst []]) = some (.nx [some run, a, some ps, some (.loc st.length), b] (st ++ [.lst acc]))) (hn : noLs acc = true) :
    (Df.mk "free_pairs" ["run"] ["run", "elder", "puts", "found", "later"] (.cons (.asg (.tup (.cons (.nm 2) (.cons (.nm 3) .nil))) (.tup (.cons (.cal "_puts" (.cons (.var 0) .nil)) (.cons (.adopt (.lst .nil)) .nil)))) (.cons s (.cons (.ret (.bi .tuple (.cons (.var 3) .nil))) .nil))) true).run cf [run] st = some (.ok (.tup acc), st) := by
  simp [q]
  rw [e]
  simp
  exact fin_app (d := .tup acc) hn
theorem free_pairs_ok {k : Nat} {st : Store} (r : List Ev) (hr : Fit r {}) (h100 : (tr r).puts.length ≤ 100) : calls TT (k + 2) "free_pairs" [enc r] st = some (.ok (.tup (fpD (tr r) (quads r))), st) := by
  have j := tr_J hr
  rw [at_free_pairs]
  have hx : (.tup ((quads r).ps.map encQ) : D) = .tup ((quads r).ps.map encQ) := rfl
  obtain ⟨env', st', e, a, b, rfl, rfl⟩ := frs_ok (cf := calls TT (k + 1)) (s := l_free_pairs_1) (l := List.range (tr r).puts.length) (f := nD) (src := .fix (lD (List.range (tr r).puts.length))) (env := [some (enc r), none, some (.tup ((quads r).ps.map encQ)), some (.loc st.length), none]) (st := st ++ [.lst []])
    (fun l acc => Few acc l ∧ ∀ i ∈ l, i < (tr r).puts.length) (InvF (enc r) (.tup ((quads r).ps.map encQ)) st) (fun acc i => acc ++ prD i (fr (tr r) (quads r) i)) [] rfl (evI_one (tr r).puts.length (by simp [quad_len j]) (by omega)) rfl (fun _ _ _ _ => rfl) ⟨few0 _ (by simpa using h100), fun i hi => List.mem_range.mp hi⟩ ⟨none, none, rfl, rfl⟩ (fun acc i l env st' p h => by
      have hi := p.2 i List.mem_cons_self
      have hl := fr_len (tr r) (quads r) i
      have hl3 : (prD i (fr (tr r) (quads r) i)).length ≤ 100 := by unfold prD; rw [List.length_map]; omega
      obtain ⟨env', st2, e1, i1⟩ := fp_turn (k := k) j (enc r) h100 acc i l env st' p.1 hi h
      exact ⟨env', st2, .inl e1, i1, p.1.step hl3, fun z hz => p.2 z (List.mem_cons_of_mem _ hz)⟩)
  rw [foldl_flat, List.nil_append] at e
  exact fp_body (quads_ok r hr.len) e (by
    rw [noLs_iff]
    intro d hd
    obtain ⟨i, _, hd⟩ := List.mem_flatMap.mp hd
    obtain ⟨j, _, rfl⟩ := List.mem_map.mp hd
    rfl)
end K02

namespace K02
open PySem Cl
open L2 (atI ixN)
/-! ### _lanes -/
theorem enmD_zip : ∀ (xs : List D) (k : Nat), enmD k xs = (xs.zipIdx k).map fun p => .tup [nD p.2, p.1]
  | [], k => rfl
  | x :: xs, k => by simp [enmD, enmD_zip xs (k + 1), nD]
theorem zip_filter {α β : Type} (f : α → Bool) (g : Nat → β) (d : α) : ∀ (l : List α), (l.zipIdx).filterMap (fun p => if f p.1 then some (g p.2) else none) = ((List.range l.length).filter fun n => f (l.getD n d)).map g := by
  refine snoc_ind rfl fun l a ih => ?_
  rw [List.zipIdx_append, List.filterMap_append, ih, List.length_append, List.length_singleton, List.range_succ, List.filter_append, List.map_append]
  have e : (List.range l.length).filter (fun n => f ((l ++ [a]).getD n d)) = (List.range l.length).filter (fun n => f (l.getD n d)) := by
    apply List.filter_congr
    intro n hn
    have := List.mem_range.mp hn
    simp [List.getElem?_append_left this]
  rw [e]
  congr 1
  cases c : f a <;> simp [c]
theorem x_lanes_1_ok {cf : CF} {st : Store} {s : S} {q : Q} (j : J s q) (hl : s.puts.length ≤ 100000) (b : Bool) (a2 a3 : Option D) :
    (ev cf x__lanes_1 [some (.tup (q.ps.map encQ)), some (.int (sd b)), a2, a3]).x st = some (.ok (.f (lD (s.idx b))), st) := by
  rw [comp_ok (x := x__lanes_1) (l := q.ps.zipIdx) (f := fun p => .tup [nD p.2, encQ p.1]) (src := .fix (enmD 0 (q.ps.map encQ))) (gg := fun p => if (p.1.1.1 == b) then some (nD p.2) else none) rfl (by simp) (by
      simp only [Src.items, enmD_zip, List.zipIdx_map, List.map_map, Function.comp_def]
      rfl) rfl (by simp [quad_len j, hl]) (fun p _ => by
      obtain ⟨⟨⟨own, n⟩, h, m⟩, i⟩ := p
      by_cases c : own = b
      · subst c; simp [encQ, nD]
      · have : ¬ sd own = sd b := by rw [sd_inj]; exact c
        simp [encQ, nD, c, this])]
  rw [zip_filter (fun x : Pt => x.1.1 == b) nD ((false, 0), 0, 0)]
  congr 4
  unfold S.idx lD
  rw [quad_len j]
  congr 1
  apply List.filter_congr
  intro n hn
  have hn := List.mem_range.mp hn
  unfold S.own
  rw [← j.ev]
  have : n < q.ps.length := by rw [quad_len j]; exact hn
  simp [List.getElem?_eq_getElem this]
theorem lanes_ok {k : Nat} {st : Store} {s : S} {q : Q} (j : J s q) (hl : s.puts.length ≤ 100000) : calls TT (k + 1) "_lanes" [.tup (q.ps.map encQ)] st = some (.ok (.lst [.lst (lD (s.idx false)), .lst (lD (s.idx true))]), st) := by
  rw [at__lanes]
  have x1 := fun a2 a3 => x_lanes_1_ok (cf := calls TT k) (st := st) j hl false a2 a3
  have x2 := fun a2 a3 => x_lanes_1_ok (cf := calls TT k) (st := st) j hl true a2 a3
  simp only [sd_f, sd_t] at x1 x2
  simp [d__lanes, c__lanes, x__lanes_2, overD, compGo, x1, x2]
  exact fin_same (d := .lst [.lst (lD (s.idx false)), .lst (lD (s.idx true))]) (by simp [noL_lD])
end K02

namespace K02
open PySem Cl
open L2 (atI ixN)
/-! ### _next -/
/-- the next put of a side, when so many of its own and so many of the other side's are gone -/
def nx1 (s : S) (q : Q) (b : Bool) (own oth : Nat) : List Nat := match (s.idx b)[own]? with
  | some n => if q.hd n ≤ oth then [n] else []
  | none => []
theorem idx_lt {s : S} {b : Bool} {i n : Nat} (h : (s.idx b)[i]? = some n) : n < s.puts.length ∧ s.own n = b := by
  have := List.mem_of_getElem? h
  have := List.mem_filter.mp this
  exact ⟨List.mem_range.mp this.1, beq_iff_eq.mp this.2⟩
set_option maxHeartbeats 2000000
theorem next_ok {k : Nat} {st : Store} {s : S} {q : Q} (j : J s q) (x y : Nat) : calls TT (k + 1) "_next" [.tup (q.ps.map encQ), .lst [.lst (lD (s.idx false)), .lst (lD (s.idx true))], .tup [.int (x : Nat), .int (y : Nat)]] st =
    some (.ok (.lst (lD (srtN (nx1 s q false x y ++ nx1 s q true y x)))), st) := by
  rw [at__next]
  have a0 : ∀ {n}, (s.idx false)[x]? = some n → atI (lD (s.idx false)) (x : Int) = some (nD n) := fun {n} h => by rw [atI_nat, lD, List.getElem?_map, h]; rfl
  have a1 : ∀ {n}, (s.idx true)[y]? = some n → atI (lD (s.idx true)) (y : Int) = some (nD n) := fun {n} h => by rw [atI_nat, lD, List.getElem?_map, h]; rfl
  have l0 : ∀ {n}, (s.idx false)[x]? = some n → x < (s.idx false).length := fun {n} h => (List.getElem?_eq_some_iff.mp h).1
  have l1 : ∀ {n}, (s.idx true)[y]? = some n → y < (s.idx true).length := fun {n} h => (List.getElem?_eq_some_iff.mp h).1
  have n0 : (s.idx false)[x]? = none → ¬ x < (s.idx false).length := fun h => by have := List.getElem?_eq_none_iff.mp h; omega
  have n1 : (s.idx true)[y]? = none → ¬ y < (s.idx true).length := fun h => by have := List.getElem?_eq_none_iff.mp h; omega
  have one : lD [] = [] := rfl
  have fin : ∀ l : List Nat, ∀ t : Store, Df.fin true st (st ++ t) (.lst (lD (srtN l))) = some (.ok (.lst (lD (srtN l))), st) := fun l t => fin_app (d := .lst (lD (srtN l))) (noL_lD _)
  have lD1 : ∀ n : Nat, lD [n] = [D.int n] := fun _ => rfl
  have lD0 : lD [] = [] := rfl
  have s0 : srtN [] = [] := rfl
  have s1 : ∀ n : Nat, srtN [n] = [n] := fun n => srtN_self (List.pairwise_singleton _ _)
  have s2 : ∀ n m : Nat, (srtI [(n : Int), (m : Int)]).map D.int = lD (srtN [n, m]) := fun n m => srtI_nat [n, m]
  cases h0 : (s.idx false)[x]? with
  | none =>
    cases h1 : (s.idx true)[y]? with
    | none =>
      rw [show nx1 s q false x y = [] by simp only [nx1, h0], show nx1 s q true y x = [] by simp only [nx1, h1]]
      have := fin [] [.lst []]
      simp [d__next, c__next, l__next_1, overD, forGo, b__next_1, n0 h0, n1 h1, ints?, srtI, s0, lD0] at this ⊢
      exact this
    | some n =>
      obtain ⟨hn, on⟩ := idx_lt h1
      by_cases c : q.hd n ≤ x
      · rw [show nx1 s q false x y = [] by simp only [nx1, h0], show nx1 s q true y x = [n] by simp only [nx1, h1, c, if_true, if_false]]
        have := fin [n] [.lst [nD n]]
        simp [d__next, c__next, l__next_1, overD, forGo, b__next_1, n0 h0, l1 h1, a1 h1, nD, quad_at j hn, encQ, ints?, srtI, insI, c, s1, lD1, lD0] at this ⊢
        exact this
      · rw [show nx1 s q false x y = [] by simp only [nx1, h0], show nx1 s q true y x = [] by simp only [nx1, h1, c, if_true, if_false]]
        have := fin [] [.lst []]
        simp [d__next, c__next, l__next_1, overD, forGo, b__next_1, n0 h0, l1 h1, a1 h1, nD, quad_at j hn, encQ, ints?, srtI, insI, c, s0, lD0] at this ⊢
        exact this
  | some m =>
    obtain ⟨hm, om⟩ := idx_lt h0
    cases h1 : (s.idx true)[y]? with
    | none =>
      by_cases c : q.hd m ≤ y
      · rw [show nx1 s q false x y = [m] by simp only [nx1, h0, c, if_true, if_false], show nx1 s q true y x = [] by simp only [nx1, h1]]
        have := fin [m] [.lst [nD m]]
        simp [d__next, c__next, l__next_1, overD, forGo, b__next_1, l0 h0, a0 h0, n1 h1, nD, quad_at j hm, encQ, ints?, srtI, insI, c, s1, lD1, lD0] at this ⊢
        exact this
      · rw [show nx1 s q false x y = [] by simp only [nx1, h0, c, if_true, if_false], show nx1 s q true y x = [] by simp only [nx1, h1]]
        have := fin [] [.lst []]
        simp [d__next, c__next, l__next_1, overD, forGo, b__next_1, l0 h0, a0 h0, n1 h1, nD, quad_at j hm, encQ, ints?, srtI, insI, c, s0, lD0] at this ⊢
        exact this
    | some n =>
      obtain ⟨hn, on⟩ := idx_lt h1
      by_cases c : q.hd m ≤ y <;> by_cases c2 : q.hd n ≤ x
      · rw [show nx1 s q false x y = [m] by simp only [nx1, h0, c, if_true, if_false], show nx1 s q true y x = [n] by simp only [nx1, h1, c2, if_true, if_false]]
        have := fin [m, n] [.lst [nD m, nD n]]
        simp [d__next, c__next, l__next_1, overD, forGo, b__next_1, l0 h0, a0 h0, l1 h1, a1 h1, nD, quad_at j hm, quad_at j hn, encQ, ints?, c, c2, s2] at this ⊢
        exact this
      · rw [show nx1 s q false x y = [m] by simp only [nx1, h0, c, if_true, if_false], show nx1 s q true y x = [] by simp only [nx1, h1, c2, if_true, if_false]]
        have := fin [m] [.lst [nD m]]
        simp [d__next, c__next, l__next_1, overD, forGo, b__next_1, l0 h0, a0 h0, l1 h1, a1 h1, nD, quad_at j hm, quad_at j hn, encQ, ints?, srtI, insI, c, c2, s1, lD1, lD0] at this ⊢
        exact this
      · rw [show nx1 s q false x y = [] by simp only [nx1, h0, c, if_true, if_false], show nx1 s q true y x = [n] by simp only [nx1, h1, c2, if_true, if_false]]
        have := fin [n] [.lst [nD n]]
        simp [d__next, c__next, l__next_1, overD, forGo, b__next_1, l0 h0, a0 h0, l1 h1, a1 h1, nD, quad_at j hm, quad_at j hn, encQ, ints?, srtI, insI, c, c2, s1, lD1, lD0] at this ⊢
        exact this
      · rw [show nx1 s q false x y = [] by simp only [nx1, h0, c, if_true, if_false], show nx1 s q true y x = [] by simp only [nx1, h1, c2, if_true, if_false]]
        have := fin [] [.lst []]
        simp [d__next, c__next, l__next_1, overD, forGo, b__next_1, l0 h0, a0 h0, l1 h1, a1 h1, nD, quad_at j hm, quad_at j hn, encQ, ints?, srtI, insI, c, c2, s0, lD0] at this ⊢
        exact this
end K02

namespace K02
open PySem Cl
/-! ### ways over a grid: the plain law -/
/-- the ways from a spot to the end (A, B); f, g: a step of the first, of the second side is open -/
def W (A B : Nat) (f g : Nat → Nat → Bool) (i j : Nat) : Nat :=
  if i < A ∨ j < B then (if i < A ∧ f i j = true then W A B f g (i + 1) j else 0) + (if j < B ∧ g i j = true then W A B f g i (j + 1) else 0) else 1
termination_by (A - i) + (B - j)
section
variable {A B : Nat} {f g : Nat → Nat → Bool}
theorem W_end {i j : Nat} (hi : ¬ i < A) (hj : ¬ j < B) : W A B f g i j = 1 := by
  rw [W, if_neg (by omega)]
theorem W_f {i j : Nat} (hi : i < A) (hf : f i j = true) : W A B f g (i + 1) j ≤ W A B f g i j := by
  rw [W.eq_1 A B f g i j, if_pos (.inl hi), if_pos ⟨hi, hf⟩]
  exact Nat.le_add_right _ _
theorem W_g {i j : Nat} (hj : j < B) (hg : g i j = true) : W A B f g i (j + 1) ≤ W A B f g i j := by
  rw [W.eq_1 A B f g i j, if_pos (.inr hj), if_pos (show j < B ∧ g i j = true from ⟨hj, hg⟩)]
  exact Nat.le_add_left _ _
theorem W_both {i j : Nat} (hi : i < A) (hf : f i j = true) (hj : j < B) (hg : g i j = true) : W A B f g i j = W A B f g (i + 1) j + W A B f g i (j + 1) := by
  rw [W.eq_1 A B f g i j, if_pos (.inl hi), if_pos ⟨hi, hf⟩, if_pos ⟨hj, hg⟩]
theorem W_le (h : ∀ i j, i < A → j < B → ¬ (f i j = true ∧ g i j = true)) : ∀ n i j, (A - i) + (B - j) ≤ n → W A B f g i j ≤ 1
  | 0, i, j, hn => by rw [W_end (by omega) (by omega)]; exact Nat.le_refl 1
  | n + 1, i, j, hn => by
    by_cases c : i < A ∨ j < B
    · rw [W, if_pos c]
      by_cases c1 : i < A ∧ f i j = true
      · have := W_le h n (i + 1) j (by omega)
        by_cases c2 : j < B ∧ g i j = true
        · exact absurd ⟨c1.2, c2.2⟩ (h i j c1.1 c2.1)
        · rw [if_pos c1, if_neg c2]; omega
      · rw [if_neg c1]
        by_cases c2 : j < B ∧ g i j = true
        · have := W_le h n i (j + 1) (by omega)
          rw [if_pos c2]; omega
        · rw [if_neg c2]; omega
    · rw [W, if_neg c]; exact Nat.le_refl 1
end
end K02

namespace K02
open PySem Cl
/-! ### what is heard rises; seeing is transitive -/
structure H (s : S) (q : Q) : Prop where
  top : ∀ j, j < s.puts.length → q.hd j ≤ q.h (s.own j)
  up : ∀ i j, i < j → j < s.puts.length → s.own i = s.own j → q.hd i ≤ q.hd j
theorem H.nil : H {} {} := ⟨fun j h => by simp at h, fun i j _ h => by simp at h⟩
theorem H.step {s : S} {q : Q} {e : Ev} (j : J s q) (h : H s q) (hk : okE s e) : H (s.step e) (q.step e) := by
  have hq := quad_len j
  obtain ⟨own, n⟩ := e
  have hmono : ∀ b, q.h b ≤ (q.step (own, n)).h b := fun b => by rw [qstep_h]; split <;> (try split) <;> omega
  by_cases hp : 0 < n
  · have hl : (s.step (own, n)).puts.length = s.puts.length + 1 := by rw [step_puts, if_pos hp]; simp
    have hnew := own_new (s := s) (e := (own, n)) hp
    have hdl : ∀ i, i < s.puts.length → (q.step (own, n)).hd i = q.hd i := fun i hi => by
      unfold Q.hd
      rw [qstep_ps, if_pos hp]
      simp [List.getElem?_append_left (show i < q.ps.length by omega)]
    have hdn : (q.step (own, n)).hd s.puts.length = q.h own := by
      unfold Q.hd
      rw [qstep_ps, if_pos hp, ← hq]
      simp
    refine ⟨fun i hi => ?_, fun i k hik hk' ho => ?_⟩
    · rw [hl] at hi
      rcases Nat.lt_succ_iff_lt_or_eq.mp hi with z | z
      · rw [hdl i z, own_lt z]
        exact Nat.le_trans (h.top i z) (hmono _)
      · subst z
        rw [hdn, hnew]
        exact hmono _
    · rw [hl] at hk'
      rcases Nat.lt_succ_iff_lt_or_eq.mp hk' with z | z
      · rw [hdl i (by omega), hdl k z]
        rw [own_lt (by omega), own_lt z] at ho
        exact h.up i k hik z ho
      · subst z
        rw [hdl i hik, hdn]
        rw [own_lt hik, hnew] at ho
        simp only at ho
        rw [← ho]
        exact h.top i hik
  · have hpu : (s.step (own, n)).puts = s.puts := by rw [step_puts, if_neg hp]
    have ho : (s.step (own, n)).own = s.own := by funext i; unfold S.own; rw [hpu]
    have hps : (q.step (own, n)).ps = q.ps := by rw [qstep_ps, if_neg hp]
    have hhd : (q.step (own, n)).hd = q.hd := by funext i; unfold Q.hd; rw [hps]
    refine ⟨fun i hi => ?_, fun i k hik hk' hoo => ?_⟩
    · rw [hpu] at hi; rw [hhd, ho]
      exact Nat.le_trans (h.top i hi) (hmono _)
    · rw [hpu] at hk'; rw [hhd]; rw [ho] at hoo
      exact h.up i k hik hk' hoo
theorem H.all : ∀ (r : List Ev) (s : S) (q : Q), J s q → H s q → Ok r s → H (r.foldl S.step s) (r.foldl Q.step q)
  | [], _, _, _, h, _ => h
  | e :: r, s, q, j, h, o => H.all r _ _ (j.step o.1) (h.step j o.1) o.2
theorem tr_H {r : List Ev} (hr : Fit r {}) : H (tr r) (quads r) := H.all r {} {} J.nil H.nil hr.1
theorem rk_mono {s : S} {q : Q} (j : J s q) {i k : Nat} (hik : i < k) (hk : k < s.puts.length) (ho : s.own i = s.own k) : q.rk i < q.rk k := by
  rw [j.rk i (by omega), j.rk k hk, ho]
  obtain ⟨d, rfl⟩ : ∃ d, k = i + 1 + d := ⟨k - (i + 1), by omega⟩
  rw [List.range_add, List.range_succ, List.filter_append, List.filter_append]
  simp [ho]
theorem sees_trans {s : S} {q : Q} (j : J s q) (h : H s q) {i m k : Nat} (him : i < m) (hmk : m < k) (hk : k < s.puts.length) (h1 : sees s q m i = true) (h2 : sees s q k m = true) : sees s q k i = true := by
  unfold sees at *
  simp only [Bool.or_eq_true, beq_iff_eq, decide_eq_true_eq] at *
  rcases h2 with h2 | h2
  · rcases h1 with h1 | h1
    · exact .inl (h1.trans h2)
    · exact .inr (Nat.lt_of_lt_of_le h1 (h.up m k hmk hk h2))
  · by_cases c : s.own i = s.own k
    · exact .inl c
    · by_cases c2 : s.own i = s.own m
      · exact .inr (Nat.lt_trans (rk_mono j him (by omega) c2) h2)
      · by_cases c3 : s.own m = s.own k
        · rcases h1 with h1 | h1
          · exact absurd h1 c2
          · exact .inr (Nat.lt_of_lt_of_le h1 (h.up m k hmk hk c3))
        · exfalso
          cases h : s.own i <;> cases h' : s.own m <;> cases h'' : s.own k <;> simp_all
/-- a free pair gives one of neighbours -/
theorem near {s : S} {q : Q} (j : J s q) (h : H s q) : ∀ (d i k : Nat), k = i + d → i < k → k < s.puts.length → sees s q k i = false → ∃ n, n + 1 < s.puts.length ∧ sees s q (n + 1) n = false
  | 0, i, k, e, hik, _, _ => by omega
  | 1, i, k, e, hik, hk, hs => ⟨i, by omega, by rw [← e]; exact hs⟩
  | d + 2, i, k, e, hik, hk, hs => by
    cases c : sees s q (i + 1) i with
    | false => exact ⟨i, by omega, c⟩
    | true =>
      cases c2 : sees s q k (i + 1) with
      | false => exact near j h (d + 1) (i + 1) k (by omega) (by omega) hk c2
      | true => rw [sees_trans j h (by omega) (by omega) hk c c2] at hs; cases hs
end K02

namespace K02
open PySem Cl
/-! ### one way, or more -/
theorem filter_at (f : Nat → Bool) : ∀ (p n : Nat), n < p → f n = true → ((List.range p).filter f)[((List.range n).filter f).length]? = some n
  | 0, n, h, _ => by omega
  | p + 1, n, h, hf => by
    rw [List.range_succ, List.filter_append]
    rcases Nat.lt_succ_iff_lt_or_eq.mp h with z | z
    · have ih := filter_at f p n z hf
      have := (List.getElem?_eq_some_iff.mp ih).1
      rw [List.getElem?_append_left this, ih]
    · subst z
      rw [List.getElem?_append_right (Nat.le_refl _), Nat.sub_self]
      simp [hf]
def S.ct (s : S) (b : Bool) (n : Nat) : Nat := ((List.range n).filter fun i => s.own i == b).length
theorem ct_succ (s : S) (b : Bool) (n : Nat) : s.ct b (n + 1) = if s.own n = b then s.ct b n + 1 else s.ct b n := by
  unfold S.ct
  rw [List.range_succ, List.filter_append]
  by_cases h : s.own n = b <;> simp [h]
theorem ct_le (s : S) (b : Bool) {n m : Nat} (h : n ≤ m) : s.ct b n ≤ s.ct b m := by
  induction m with
  | zero => have : n = 0 := by omega
            subst this; exact Nat.le_refl _
  | succ m ih =>
    by_cases c : n = m + 1
    · subst c; exact Nat.le_refl _
    · have := ih (by omega)
      rw [ct_succ]
      split <;> omega
theorem idx_at {s : S} {b : Bool} {n : Nat} (h : n < s.puts.length) (ho : s.own n = b) : (s.idx b)[s.ct b n]? = some n := filter_at _ _ _ h (by simp [ho])
theorem idx_len (s : S) (b : Bool) : (s.idx b).length = s.ct b s.puts.length := rfl
/-- a step of a side is open -/
def opn (s : S) (q : Q) (b : Bool) (own oth : Nat) : Bool := match (s.idx b)[own]? with
  | some n => decide (q.hd n ≤ oth)
  | none => false
theorem opn_at {s : S} {q : Q} {b : Bool} {n y : Nat} (h : n < s.puts.length) (ho : s.own n = b) : opn s q b (s.ct b n) y = decide (q.hd n ≤ y) := by
  unfold opn
  rw [idx_at h ho]
/-- the ways of a run from a spot -/
def Wy (s : S) (q : Q) : Nat → Nat → Nat := W (s.idx false).length (s.idx true).length (fun i j => opn s q false i j) (fun i j => opn s q true j i)
theorem hd_le {s : S} {q : Q} (j : J s q) {n : Nat} (h : n < s.puts.length) : q.hd n ≤ s.ct (!s.own n) n := by
  have := j.hd n h
  have e : ((List.range n).filter fun i => s.own i != s.own n) = (List.range n).filter fun i => s.own i == !s.own n := by
    congr 1; funext i; exact ne_not
  rw [e] at this
  exact this
/-- the spot after n puts -/
def Sp (s : S) (q : Q) (n : Nat) : Nat := Wy s q (s.ct false n) (s.ct true n)
theorem ct_lt {s : S} {b : Bool} {n : Nat} (h : n < s.puts.length) (ho : s.own n = b) : s.ct b n < (s.idx b).length := (List.getElem?_eq_some_iff.mp (idx_at h ho)).1
theorem Sp_step {s : S} {q : Q} (j : J s q) {n : Nat} (h : n < s.puts.length) : Sp s q (n + 1) ≤ Sp s q n := by
  unfold Sp Wy
  have hh := hd_le j h
  cases c : s.own n with
  | false =>
    rw [c] at hh
    rw [ct_succ, ct_succ, c, if_pos rfl, if_neg (by simp)]
    exact W_f (ct_lt h c) (by rw [opn_at h c]; simpa using hh)
  | true =>
    rw [c] at hh
    rw [ct_succ, ct_succ, c, if_neg (by simp), if_pos rfl]
    exact W_g (ct_lt h c) (by rw [opn_at h c]; simpa using hh)
theorem Sp_all {s : S} {q : Q} (j : J s q) : ∀ (d n : Nat), n + d ≤ s.puts.length → Sp s q (n + d) ≤ Sp s q n
  | 0, n, _ => Nat.le_refl _
  | d + 1, n, h => by
    have h1 := Sp_all j d (n + 1) (by omega)
    have h2 := Sp_step j (n := n) (by omega)
    have : n + (d + 1) = n + 1 + d := by omega
    rw [this]
    omega
theorem Sp_end (s : S) (q : Q) : Sp s q s.puts.length = 1 := W_end (by rw [idx_len]; omega) (by rw [idx_len]; omega)
theorem Sp_pos {s : S} {q : Q} (j : J s q) {n : Nat} (h : n ≤ s.puts.length) : 1 ≤ Sp s q n := by
  have := Sp_all j (s.puts.length - n) n (by omega)
  rw [show n + (s.puts.length - n) = s.puts.length by omega, Sp_end] at this
  exact this
theorem Sp_zero (s : S) (q : Q) : Sp s q 0 = Wy s q 0 0 := rfl
theorem sees_no {s : S} {q : Q} {i k : Nat} (h : sees s q k i = false) : s.own i ≠ s.own k ∧ q.hd k ≤ q.rk i := by
  unfold sees at h
  simpa using h
theorem rk_ct {s : S} {q : Q} (j : J s q) {n : Nat} (h : n < s.puts.length) : q.rk n = s.ct (s.own n) n := j.rk n h
theorem Sp_two {s : S} {q : Q} (j : J s q) {n : Nat} (h : n + 1 < s.puts.length) (hs : sees s q (n + 1) n = false) : 2 ≤ Sp s q n := by
  obtain ⟨ho, hr⟩ := sees_no hs
  rw [rk_ct j (by omega)] at hr
  have h0 := hd_le j (n := n) (by omega)
  have p1 := Sp_pos j (n := n + 1) (by omega)
  have p2 := Sp_pos j (n := n + 2) (by omega)
  cases c : s.own n with
  | false =>
    have c1 : s.own (n + 1) = true := by cases z : s.own (n + 1) <;> simp_all
    rw [c] at h0 hr
    have e1 : s.ct false (n + 1) = s.ct false n + 1 := by rw [ct_succ, c, if_pos rfl]
    have e2 : s.ct true (n + 1) = s.ct true n := by rw [ct_succ, c, if_neg (by simp)]
    have e3 : s.ct false (n + 2) = s.ct false n + 1 := by rw [ct_succ, c1, if_neg (by simp), e1]
    have e4 : s.ct true (n + 2) = s.ct true n + 1 := by rw [ct_succ, c1, if_pos rfl, e2]
    have b := W_both (A := (s.idx false).length) (B := (s.idx true).length) (f := fun i j => opn s q false i j) (g := fun i j => opn s q true j i) (i := s.ct false n) (j := s.ct true n)
      (ct_lt (by omega) c) (by rw [opn_at (by omega) c]; simpa using h0) (by rw [← e2]; exact ct_lt h c1) (by rw [← e2, opn_at h c1]; simpa using hr)
    have m := W_f (A := (s.idx false).length) (B := (s.idx true).length) (f := fun i j => opn s q false i j) (g := fun i j => opn s q true j i) (i := s.ct false n) (j := s.ct true n + 1)
      (ct_lt (by omega) c) (by rw [opn_at (by omega) c]; simp at h0 ⊢; omega)
    unfold Sp Wy at *
    rw [e1, e2] at p1
    rw [e3, e4] at p2
    omega
  | true =>
    have c1 : s.own (n + 1) = false := by cases z : s.own (n + 1) <;> simp_all
    rw [c] at h0 hr
    have e1 : s.ct true (n + 1) = s.ct true n + 1 := by rw [ct_succ, c, if_pos rfl]
    have e2 : s.ct false (n + 1) = s.ct false n := by rw [ct_succ, c, if_neg (by simp)]
    have e3 : s.ct true (n + 2) = s.ct true n + 1 := by rw [ct_succ, c1, if_neg (by simp), e1]
    have e4 : s.ct false (n + 2) = s.ct false n + 1 := by rw [ct_succ, c1, if_pos rfl, e2]
    have b := W_both (A := (s.idx false).length) (B := (s.idx true).length) (f := fun i j => opn s q false i j) (g := fun i j => opn s q true j i) (i := s.ct false n) (j := s.ct true n)
      (by rw [← e2]; exact ct_lt h c1) (by rw [← e2, opn_at h c1]; simpa using hr) (ct_lt (by omega) c) (by rw [opn_at (by omega) c]; simpa using h0)
    have m := W_g (A := (s.idx false).length) (B := (s.idx true).length) (f := fun i j => opn s q false i j) (g := fun i j => opn s q true j i) (i := s.ct false n + 1) (j := s.ct true n)
      (ct_lt (by omega) c) (by rw [opn_at (by omega) c]; simp at h0 ⊢; omega)
    unfold Sp Wy at *
    rw [e1, e2] at p1
    rw [e3, e4] at p2
    omega
end K02

namespace K02
open PySem Cl
theorem asc_inj {l : List Nat} (h : Asc l) {i j m : Nat} (hi : l[i]? = some m) (hj : l[j]? = some m) : i = j := by
  obtain ⟨hi, ei⟩ := List.getElem?_eq_some_iff.mp hi
  obtain ⟨hj, ej⟩ := List.getElem?_eq_some_iff.mp hj
  have p := List.pairwise_iff_getElem.mp h
  rcases Nat.lt_trichotomy i j with z | z | z
  · have := p i j hi hj z; omega
  · exact z
  · have := p j i hj hi z; omega
theorem idx_ct {s : S} {b : Bool} {i m : Nat} (h : (s.idx b)[i]? = some m) : m < s.puts.length ∧ s.own m = b ∧ i = s.ct b m := by
  have ⟨h1, h2⟩ := idx_lt h
  exact ⟨h1, h2, asc_inj (asc_filter _ (asc_range _)) h (idx_at h1 h2)⟩
theorem opn_some {s : S} {q : Q} {b : Bool} {x y : Nat} (h : opn s q b x y = true) : ∃ m, m < s.puts.length ∧ s.own m = b ∧ x = s.ct b m ∧ q.hd m ≤ y := by
  unfold opn at h
  cases c : (s.idx b)[x]? with
  | none => rw [c] at h; cases h
  | some m =>
    rw [c] at h
    obtain ⟨a, b, d⟩ := idx_ct c
    exact ⟨m, a, b, d, by simpa using h⟩
theorem one_way {s : S} {q : Q} (j : J s q) (h : H s q) : Wy s q 0 0 = 1 ↔ ∀ i k, i < k → k < s.puts.length → sees s q k i = true := by
  constructor
  · intro e i k hik hk
    cases c : sees s q k i with
    | true => rfl
    | false =>
      obtain ⟨n, h1, h2⟩ := near j h (k - i) i k (by omega) hik hk c
      have t := Sp_two j h1 h2
      have u := Sp_all j n 0 (by omega)
      rw [Nat.zero_add] at u
      rw [← Sp_zero] at e
      omega
  · intro f
    have lo := Sp_pos j (n := 0) (by omega)
    rw [Sp_zero] at lo
    have hi : Wy s q 0 0 ≤ 1 := W_le (fun x y hx hy => by
      rintro ⟨o1, o2⟩
      obtain ⟨m, m1, m2, m3, m4⟩ := opn_some o1
      obtain ⟨n, n1, n2, n3, n4⟩ := opn_some o2
      have rm := rk_ct j m1
      have rn := rk_ct j n1
      rw [m2, ← m3] at rm
      rw [n2, ← n3] at rn
      rcases Nat.lt_trichotomy m n with z | z | z
      · have := f m n z n1
        simp [sees, m2, n2] at this
        omega
      · subst z; rw [m2] at n2; cases n2
      · have := f n m z m1
        simp [sees, m2, n2] at this
        omega) _ 0 0 (Nat.le_refl _)
    omega
end K02

namespace K02
open PySem Cl
open L2 (atI ixN)
/-! ### _ways -/
section
variable {κ : Type} [DecidableEq κ]
theorem find_map (kvs : List (κ × D)) (k k' : κ) (v : D) : ((kvs.map fun kv => if kv.1 = k then (kv.1, v) else kv).find? fun kv => decide (kv.1 = k')).map (·.2) = if k = k' then (if kvs.any fun kv => decide (kv.1 = k) then some v else none) else (kvs.find? fun kv => decide (kv.1 = k')).map (·.2) := by
  induction kvs with
  | nil => by_cases h : k = k' <;> simp [h]
  | cons a kvs ih =>
    rw [List.map_cons, List.find?_cons, List.find?_cons, List.any_cons]
    by_cases h : a.1 = k
    · by_cases h2 : k = k'
      · subst h2; simp [h]
      · have h3 : ¬ a.1 = k' := by rw [h]; exact h2
        simp only [h, h2, if_false, if_true, decide_false, Bool.false_or, decide_true, Bool.true_or] at ih ⊢
        exact ih
    · by_cases h2 : k = k'
      · subst h2
        simp only [h, if_false, if_true, decide_false, Bool.false_or] at ih ⊢
        exact ih
      · by_cases h3 : a.1 = k'
        · rw [if_neg h, if_neg h2]
          simp only [h3, decide_true]
        · simp only [h, h2, h3, if_false, decide_false] at ih ⊢
          exact ih
theorem gK_pK (kvs : List (κ × D)) (k k' : κ) (v : D) : gK (pK kvs k v) k' = if k = k' then some v else gK kvs k' := by
  unfold pK gK
  by_cases h : (kvs.any fun kv => decide (kv.1 = k)) = true
  · rw [if_pos h, find_map, h]; simp
  · rw [if_neg h, List.find?_append]
    by_cases h2 : k = k'
    · subst h2
      have : kvs.find? (fun kv => decide (kv.1 = k)) = none := by
        rw [List.find?_eq_none]
        intro x hx c
        exact h (List.any_eq_true.mpr ⟨x, hx, c⟩)
      simp [this]
    · simp [h2]
theorem pK_len (kvs : List (κ × D)) (k : κ) (v : D) : (pK kvs k v).length ≤ kvs.length + 1 := by
  unfold pK
  split <;> simp
end
theorem rngC_nat (a : Nat) : rngC (a : Int) (-1) = lD (List.range (a + 1)).reverse := by
  have e : ((a : Int) - (-1)).toNat = a + 1 := by omega
  unfold rngC lD
  rw [e]
  apply List.ext_getElem
  · simp
  · intro i h1 h2
    simp at h1
    simp [nD]
    omega
end K02

namespace K02
open PySem Cl
open L2 (atI ixN Key)
abbrev Kvs := List (List Key × D)
def kk (i j : Nat) : List Key := [.inl (i : Int), .inl (j : Int)]
theorem kk_inj {i j x y : Nat} : kk i j = kk x y ↔ i = x ∧ j = y := by
  simp [kk]; omega
/-- all spots below row x, and those of row x from column n on, are done -/
def Done (s : S) (q : Q) (kvs : Kvs) (x n : Nat) : Prop := ∀ i j, i ≤ (s.idx false).length → j ≤ (s.idx true).length → (x < i ∨ (i = x ∧ n ≤ j)) → gK kvs (kk i j) = some (nD (Wy s q i j))
theorem Done.next {s : S} {q : Q} {kvs : Kvs} {x y : Nat} (d : Done s q kvs x (y + 1)) : Done s q (pK kvs (kk x y) (nD (Wy s q x y))) x y := fun i j hi hj h => by
  rw [gK_pK]
  by_cases c : kk x y = kk i j
  · obtain ⟨rfl, rfl⟩ := kk_inj.mp c
    rw [if_pos rfl]
  · rw [if_neg c]
    refine d i j hi hj ?_
    rcases h with h | ⟨h1, h2⟩
    · exact .inl h
    · refine .inr ⟨h1, ?_⟩
      rcases Nat.lt_or_eq_of_le h2 with z | z
      · exact z
      · exact absurd (kk_inj.mpr ⟨h1.symm, z⟩) c
theorem Done.row {s : S} {q : Q} {kvs : Kvs} {x : Nat} (d : Done s q kvs (x + 1) 0) : Done s q kvs x ((s.idx true).length + 1) := fun i j hi hj h => by
  refine d i j hi hj ?_
  omega
/-- the sum over what is next -/
theorem W_sum (s : S) (q : Q) (x y : Nat) (h : x < (s.idx false).length ∨ y < (s.idx true).length) :
    Wy s q x y = ((nx1 s q false x y).map fun _ => Wy s q (x + 1) y).sum + ((nx1 s q true y x).map fun _ => Wy s q x (y + 1)).sum := by
  unfold Wy
  rw [W.eq_1, if_pos h]
  congr 1
  · unfold nx1 opn
    cases c : (s.idx false)[x]? with
    | none => have := List.getElem?_eq_none_iff.mp c; simp
    | some n =>
      have := (List.getElem?_eq_some_iff.mp c).1
      by_cases c2 : q.hd n ≤ y <;> simp [c2, this]
  · unfold nx1 opn
    cases c : (s.idx true)[y]? with
    | none => have := List.getElem?_eq_none_iff.mp c; simp
    | some n =>
      have := (List.getElem?_eq_some_iff.mp c).1
      by_cases c2 : q.hd n ≤ x <;> simp [c2, this]
end K02

namespace K02
open PySem Cl
open L2 (atI ixN Key)
/-- where a put leads -/
def lead (s : S) (x y n : Nat) : List Key := if s.own n = false then kk (x + 1) y else kk x (y + 1)
theorem nx1_own {s : S} {q : Q} {b : Bool} {x y n : Nat} (h : n ∈ nx1 s q b x y) : n < s.puts.length ∧ s.own n = b ∧ x < (s.idx b).length := by
  unfold nx1 at h
  cases c : (s.idx b)[x]? with
  | none => rw [c] at h; simp at h
  | some m =>
    rw [c] at h
    obtain ⟨h1, h2⟩ := idx_lt c
    have h3 := (List.getElem?_eq_some_iff.mp c).1
    by_cases d : q.hd m ≤ y
    · simp [d] at h; subst h; exact ⟨h1, h2, h3⟩
    · simp [d] at h
theorem x_ways_ok {k : Nat} {st : Store} {s : S} {q : Q} (j : J s q) (x y L : Nat) (kvs : Kvs) (v : Nat → D) (hs : st[L]? = some (.dT kvs)) (hv : ∀ n ∈ srtN (nx1 s q false x y ++ nx1 s q true y x), gK kvs (lead s x y n) = some (v n)) (a2 a4 a5 a7 : Option D) :
    (ev (calls TT (k + 1)) x__ways_1 [some (.tup (q.ps.map encQ)), some (.lst [.lst (lD (s.idx false)), .lst (lD (s.idx true))]), a2, some (.loc L), a4, a5, some (.tup [.int (x : Nat), .int (y : Nat)]), a7]).x st = some (.ok (.f ((srtN (nx1 s q false x y ++ nx1 s q true y x)).map v)), st) := by
  have hl : (srtN (nx1 s q false x y ++ nx1 s q true y x)).length ≤ 100000 := by
    have p : ∀ l : List Nat, (srtN l).length = l.length := fun l => by simp [srtN, (srtI_perm (l.map Int.ofNat)).length_eq]
    have n1 : ∀ b x y, (nx1 s q b x y).length ≤ 1 := fun b x y => by
      unfold nx1
      split
      · split <;> simp
      · simp
    rw [p, List.length_append]
    have := n1 false x y
    have := n1 true y x
    omega
  refine comp_all (x := x__ways_1) (f := nD) (src := .fix (lD (srtN (nx1 s q false x y ++ nx1 s q true y x)))) rfl (by
    have := next_ok (k := k) (st := st) j x y
    simp [this, overD]) rfl rfl hl (fun n hn => ?_)
  have hn2 := hv n hn
  rw [srtN_mem, List.mem_append] at hn
  have hp : n < s.puts.length := by rcases hn with z | z <;> exact (nx1_own z).1
  have g := gone_ok (k := k) (st := st) (q.ps.map encQ) x y n (sd (s.own n)) _ (quad_at j hp)
  by_cases c : s.own n = false
  · rw [c] at g
    simp [lead, c, kk] at hn2
    simp [encQ, sd_f] at g
    simp [nD, g, hs, keyD, hn2]
  · have c : s.own n = true := by simpa using c
    rw [c] at g
    simp [lead, c, kk] at hn2
    simp [encQ, sd_t] at g
    simp [nD, g, hs, keyD, hn2]
end K02

namespace K02
open PySem Cl
open L2 (atI ixN Key)
theorem ints_map (w : Nat → Nat) : ∀ l : List Nat, ints? (l.map fun n => nD (w n)) = some (l.map fun n => ((w n : Nat) : Int))
  | [] => rfl
  | n :: l => by
    have ih := ints_map w l
    simp only [List.map_cons, nD, ints?] at ih ⊢
    rw [ih]
theorem sum_cast (w : Nat → Nat) : ∀ l : List Nat, (l.map fun n => ((w n : Nat) : Int)).sum = (((l.map w).sum : Nat) : Int)
  | [] => rfl
  | n :: l => by simp [sum_cast w l]
theorem sum_perm {a b : List Nat} (h : a.Perm b) : a.sum = b.sum := by
  induction h with
  | nil => rfl
  | cons x _ ih => simp [ih]
  | swap x y l => simp; omega
  | trans _ _ i1 i2 => exact i1.trans i2
theorem srtN_perm (l : List Nat) : (srtN l).Perm l := by
  have := (srtI_perm (l.map Int.ofNat)).map Int.toNat
  simpa [List.map_map, Function.comp_def, srtN] using this
end K02

namespace K02
open PySem Cl
open L2 (atI ixN Key)
/-! ### _ways, weaving_count -/
def rngM (ok : Int → Bool) (f g : Int → Int → List D) (ds : List D) : M Src := match ds with
    | [.int n] => if ok n then Cl.ret (.fix (f 0 n)) else lft none
    | [.int a, .int b] => if ok a && ok b then Cl.ret (.fix (f a b)) else lft none
    | [.int a, .int b, .int (-1)] => if ok a && ok b then Cl.ret (.fix (g a b)) else lft none
    | _ => lft none
theorem evI_eq {cf : CF} {env : Cl.Env} {as : CA} : evI cf (.rng as) env = Cl.bnd (evA cf as env) (rngM okR rngD rngC) := by
  rw [evI]
  have : ∀ (ok : Int → Bool) (f g : Int → Int → List D), (Cl.bnd (evA cf as env) fun ds => match ds with
    | [.int n] => if ok n then Cl.ret (.fix (f 0 n)) else lft none
    | [.int a, .int b] => if ok a && ok b then Cl.ret (.fix (f a b)) else lft none
    | [.int a, .int b, .int (-1)] => if ok a && ok b then Cl.ret (.fix (g a b)) else lft none
    | _ => lft none) = Cl.bnd (evA cf as env) (rngM ok f g) := fun _ _ _ => rfl
  exact this okR rngD rngC
theorem mm (k : Int → Bool) (f g : Int → Int → List D) (a b : Int) (st : Store) : rngM k f g [D.int a, D.int b, D.int (-1)] st = (if k a && k b then Cl.ret (.fix (g a b)) else lft none) st := by
  rfl
theorem okR_m1 : okR (-1) = true := by
  have h1 : (100000 : Int) < 2 ^ 62 := by decide
  have h2 : -(2 ^ 62 : Int) ≤ 0 := by decide
  unfold okR
  generalize (2 ^ 62 : Int) = w at h1 h2
  rw [Bool.and_eq_true]
  exact ⟨decide_eq_true (by omega), decide_eq_true (by omega)⟩
theorem evI_dn {cf : CF} {env : Cl.Env} {st : Store} {as : CA} (a : Nat) (h : evA cf as env st = some (.ok [.int (a : Nat), .int (-1), .int (-1)], st)) (ha : a ≤ 100000) : evI cf (.rng as) env st = some (.ok (.fix (lD (List.range (a + 1)).reverse)), st) := by
  rw [evI_eq, Cl.bnd, h]
  show rngM okR rngD rngC [D.int a, D.int (-1), D.int (-1)] st = _
  rw [mm, okR_nat a ha, okR_m1, rngC_nat]
  rfl
theorem row_turn {cf : CF} {s1 : CS} {x : D} {p l m L a4 a5 a6 a7 : Option D} {st st' : Store} {env' : Cl.Env} (e : evS cf s1 [p, l, m, L, some x, a5, a6, a7] st = some (.nx env' st')) : turnS cf (.nm 4) (.cons s1 .nil) x [p, l, m, L, a4, a5, a6, a7] st = some (.nx env' st') := by
  simp [e]
def wt (s : S) (q : Q) (x y n : Nat) : Nat := if s.own n = false then Wy s q (x + 1) y else Wy s q x (y + 1)
theorem wt_sum (s : S) (q : Q) (x y : Nat) (h : x < (s.idx false).length ∨ y < (s.idx true).length) : ((srtN (nx1 s q false x y ++ nx1 s q true y x)).map (wt s q x y)).sum = Wy s q x y := by
  rw [sum_perm ((srtN_perm _).map _), List.map_append, List.sum_append, W_sum s q x y h]
  congr 1
  · congr 1
    apply List.map_congr_left
    intro n hn
    have := (nx1_own hn).2.1
    simp [wt, this]
  · congr 1
    apply List.map_congr_left
    intro n hn
    have := (nx1_own hn).2.1
    simp [wt, this]
theorem wt_lead {s : S} {q : Q} {kvs : Kvs} {x y : Nat} (d : Done s q kvs x (y + 1)) (hx : x ≤ (s.idx false).length) (hy : y ≤ (s.idx true).length) (n : Nat) (hn : n ∈ srtN (nx1 s q false x y ++ nx1 s q true y x)) : gK kvs (lead s x y n) = some (nD (wt s q x y n)) := by
  rw [srtN_mem, List.mem_append] at hn
  unfold lead wt
  rcases hn with z | z
  · obtain ⟨h1, h2, h3⟩ := nx1_own z
    rw [if_pos h2, if_pos h2]
    exact d _ _ (by omega) hy (.inl (by omega))
  · obtain ⟨h1, h2, h3⟩ := nx1_own z
    rw [if_neg (by simp [h2]), if_neg (by simp [h2])]
    exact d _ _ hx (by omega) (.inr ⟨rfl, Nat.le_refl _⟩)
theorem eq_spot {st : Store} (a b c d : Nat) : eqD st (.tup [.int (a : Nat), .int (b : Nat)]) (.tup [.int (c : Nat), .int (d : Nat)]) = some (decide (a = c ∧ b = d)) := by
  rw [eqD_solid rfl rfl rfl rfl]
  have e1 := beq_nD a c
  have e2 := beq_nD b d
  simp only [nD] at e1 e2
  simp [D.beq, Ds.beq] at e1 e2 ⊢
  simp [e1, e2]
/-- a spot that is the end: nothing is done -/
theorem way_end {cf : CF} {e : CE} {st : Store} {p l : D} {A B : Nat} {L : D} {a5 a6 a7 : Option D} : turnS cf (.nm 5) (.cons (.asg (.nm 6) (.tup (.cons (.var 4) (.cons (.var 5) .nil)))) (.cons (.ite (.cmp .NotEq (.var 6) (.var 2)) (.cons (.asg (.sub (.var 3) (.var 6)) (.bi .sum (.cons e .nil))) .nil) .nil) .nil)) (nD B) [some p, some l, some (.tup [.int (A : Nat), .int (B : Nat)]), some L, some (nD A), a5, a6, a7] st =
    some (.nx [some p, some l, some (.tup [.int (A : Nat), .int (B : Nat)]), some L, some (nD A), some (nD B), some (.tup [.int (A : Nat), .int (B : Nat)]), a7] st) := by
  simp [nD, eq_spot]
theorem way_one {cf : CF} {e : CE} {st : Store} {p l : D} {A B x y : Nat} {L : Nat} {kvs : Kvs} {w : Nat → Nat} {ns : List Nat} {a5 a6 a7 : Option D} (hs : st[L]? = some (.dT kvs)) (hne : ¬ (x = A ∧ y = B)) (hk : kvs.length + 1 ≤ 100000)
    (he : (ev cf e [some p, some l, some (.tup [.int (A : Nat), .int (B : Nat)]), some (.loc L), some (nD x), some (nD y), some (.tup [.int (x : Nat), .int (y : Nat)]), a7]).x st = some (.ok (.f (ns.map fun n => nD (w n))), st)) :
    turnS cf (.nm 5) (.cons (.asg (.nm 6) (.tup (.cons (.var 4) (.cons (.var 5) .nil)))) (.cons (.ite (.cmp .NotEq (.var 6) (.var 2)) (.cons (.asg (.sub (.var 3) (.var 6)) (.bi .sum (.cons e .nil))) .nil) .nil) .nil)) (nD y) [some p, some l, some (.tup [.int (A : Nat), .int (B : Nat)]), some (.loc L), some (nD x), a5, a6, a7] st =
    some (.nx [some p, some l, some (.tup [.int (A : Nat), .int (B : Nat)]), some (.loc L), some (nD x), some (nD y), some (.tup [.int (x : Nat), .int (y : Nat)]), a7] (st.set L (.dT (pK kvs (kk x y) (nD (ns.map w).sum))))) := by
  simp only [nD] at he
  simp [nD, eq_spot, hne, he]
  have := ints_map w ns
  have hk2 : kvs.length ≤ 99999 := by omega
  simp only [nD] at this
  simp [this, hs, keyD, hk2, sum_cast, kk]
def InvV (s : S) (q : Q) (p l : D) (st0 : Store) (x b : Nat) (n : Nat) (env : Cl.Env) (st : Store) : Prop :=
  ∃ (kvs : Kvs) (a5 a6 a7 : Option D), env = [some p, some l, some (.tup [.int ((s.idx false).length : Nat), .int ((s.idx true).length : Nat)]), some (.loc st0.length), some (nD x), a5, a6, a7] ∧ st = st0 ++ [.dT kvs] ∧ Done s q kvs x n ∧ kvs.length + n ≤ b ∧ gK kvs (kk (s.idx false).length (s.idx true).length) = some (nD 1)
theorem fold_dn {α : Type} : ∀ (l : List α) (n : Nat), l.foldl (fun n _ => n - 1) n = n - l.length
  | [], n => rfl
  | a :: l, n => by rw [List.foldl_cons, fold_dn l, List.length_cons]; omega
theorem rng_dn (n : Nat) : (List.range (n + 1)).reverse = n :: (List.range n).reverse := by rw [List.range_succ]; simp
theorem dn_at {y : Nat} {l : List Nat} {n : Nat} (h : y :: l = (List.range n).reverse) : n = y + 1 ∧ l = (List.range y).reverse := by
  cases n with
  | zero => simp at h
  | succ n => rw [rng_dn] at h; simp only [List.cons.injEq] at h; obtain ⟨rfl, rfl⟩ := h; exact ⟨rfl, rfl⟩
theorem inner_ok {k : Nat} {st0 : Store} {s : S} {q : Q} (j : J s q) (hB : (s.idx true).length ≤ 1000) (x b : Nat) (hb : b ≤ 99999) (hx : x ≤ (s.idx false).length) (env : Cl.Env) (st : Store)
    (h : InvV s q (.tup (q.ps.map encQ)) (.lst [.lst (lD (s.idx false)), .lst (lD (s.idx true))]) st0 x b ((s.idx true).length + 1) env st) :
    ∃ env' st', evS (calls TT (k + 1)) l__ways_2 env st = some (.nx env' st') ∧ InvV s q (.tup (q.ps.map encQ)) (.lst [.lst (lD (s.idx false)), .lst (lD (s.idx true))]) st0 x b 0 env' st' := by
  have h' := h
  obtain ⟨kvs, a5, a6, a7, rfl, rfl, d, hl, g1⟩ := h
  have := frs_ok (cf := calls TT (k + 1)) (s := l__ways_2) (l := (List.range ((s.idx true).length + 1)).reverse) (f := nD) (src := .fix (lD (List.range ((s.idx true).length + 1)).reverse)) (fun l n => l = (List.range n).reverse ∧ n ≤ (s.idx true).length + 1) (InvV s q (.tup (q.ps.map encQ)) (.lst [.lst (lD (s.idx false)), .lst (lD (s.idx true))]) st0 x b) (fun n _ => n - 1) ((s.idx true).length + 1) rfl
    (evI_dn (s.idx true).length (by simp) (by omega)) rfl (fun _ _ _ _ => rfl) ⟨rfl, Nat.le_refl _⟩ h' (fun n y l env st p i => by
      obtain ⟨rfl, hl⟩ := dn_at p.1
      obtain ⟨kvs, a5, a6, a7, rfl, rfl, d, hl2, g1⟩ := i
      have hy : y ≤ (s.idx true).length := by omega
      by_cases c : x = (s.idx false).length ∧ y = (s.idx true).length
      · obtain ⟨c1, c2⟩ := c
        subst c1 c2
        refine ⟨_, _, .inl way_end, ⟨kvs, _, _, _, rfl, rfl, ?_, by omega, g1⟩, hl, by omega⟩
        intro i j' hi hj h
        by_cases c3 : i = (s.idx false).length ∧ j' = (s.idx true).length
        · obtain ⟨rfl, rfl⟩ := c3
          rw [g1]
          unfold Wy
          rw [W_end (by omega) (by omega)]
        · refine d i j' hi hj ?_
          omega
      · refine ⟨_, _, .inl (way_one (kvs := kvs) (w := wt s q x y) (ns := srtN (nx1 s q false x y ++ nx1 s q true y x)) (by simp) c (by omega) (x_ways_ok j x y st0.length kvs (fun n => nD (wt s q x y n)) (by simp) (wt_lead d hx hy) _ _ _ _)), ⟨_, _, _, _, rfl, by simp; rfl, ?_, ?_, ?_⟩, hl, by omega⟩
        · rw [wt_sum s q x y (by omega)]
          exact d.next
        · have := pK_len kvs (kk x y) (nD ((srtN (nx1 s q false x y ++ nx1 s q true y x)).map (wt s q x y)).sum)
          omega
        · rw [gK_pK, if_neg (by rw [kk_inj]; exact c)]
          exact g1)
  rw [fold_dn] at this
  simpa using this
def InvR (s : S) (q : Q) (p l : D) (st0 : Store) (n : Nat) (env : Cl.Env) (st : Store) : Prop :=
  ∃ (kvs : Kvs) (a4 a5 a6 a7 : Option D), env = [some p, some l, some (.tup [.int ((s.idx false).length : Nat), .int ((s.idx true).length : Nat)]), some (.loc st0.length), a4, a5, a6, a7] ∧ st = st0 ++ [.dT kvs] ∧ Done s q kvs n 0 ∧ kvs.length + n * ((s.idx true).length + 1) ≤ 1 + ((s.idx false).length + 1) * ((s.idx true).length + 1) ∧ gK kvs (kk (s.idx false).length (s.idx true).length) = some (nD 1)
theorem outer_ok {k : Nat} {st0 : Store} {s : S} {q : Q} (j : J s q) (hA : (s.idx false).length ≤ 200) (hB : (s.idx true).length ≤ 200) (env : Cl.Env) (st : Store)
    (h : InvR s q (.tup (q.ps.map encQ)) (.lst [.lst (lD (s.idx false)), .lst (lD (s.idx true))]) st0 ((s.idx false).length + 1) env st) :
    ∃ env' st', evS (calls TT (k + 1)) l__ways_1 env st = some (.nx env' st') ∧ InvR s q (.tup (q.ps.map encQ)) (.lst [.lst (lD (s.idx false)), .lst (lD (s.idx true))]) st0 0 env' st' := by
  have h' := h
  obtain ⟨kvs, a4, a5, a6, a7, rfl, rfl, d, hl, g1⟩ := h
  have bnd : ((s.idx false).length + 1) * ((s.idx true).length + 1) ≤ 201 * 201 := Nat.mul_le_mul (by omega) (by omega)
  have := frs_ok (cf := calls TT (k + 1)) (s := l__ways_1) (l := (List.range ((s.idx false).length + 1)).reverse) (f := nD) (src := .fix (lD (List.range ((s.idx false).length + 1)).reverse)) (fun l n => l = (List.range n).reverse ∧ n ≤ (s.idx false).length + 1) (InvR s q (.tup (q.ps.map encQ)) (.lst [.lst (lD (s.idx false)), .lst (lD (s.idx true))]) st0) (fun n _ => n - 1) ((s.idx false).length + 1) rfl
    (evI_dn (s.idx false).length (by simp) (by omega)) rfl (fun _ _ _ _ => rfl) ⟨rfl, Nat.le_refl _⟩ h' (fun n x l env st p i => by
      obtain ⟨rfl, hl⟩ := dn_at p.1
      obtain ⟨kvs, a4, a5, a6, a7, rfl, rfl, d, hl2, g1⟩ := i
      have hm : (x + 1) * ((s.idx true).length + 1) = x * ((s.idx true).length + 1) + ((s.idx true).length + 1) := Nat.succ_mul _ _
      obtain ⟨env', st', e, kvs', b5, b6, b7, rfl, rfl, d', hl', g'⟩ := inner_ok (k := k) (st0 := st0) j (by omega) x (kvs.length + ((s.idx true).length + 1)) (by omega) (by omega) [some (.tup (q.ps.map encQ)), some (.lst [.lst (lD (s.idx false)), .lst (lD (s.idx true))]), some (.tup [.int ((s.idx false).length : Nat), .int ((s.idx true).length : Nat)]), some (.loc st0.length), some (nD x), a5, a6, a7] (st0 ++ [.dT kvs]) ⟨kvs, a5, a6, a7, rfl, rfl, d.row, Nat.le_refl _, g1⟩
      refine ⟨[some (.tup (q.ps.map encQ)), some (.lst [.lst (lD (s.idx false)), .lst (lD (s.idx true))]), some (.tup [.int ((s.idx false).length : Nat), .int ((s.idx true).length : Nat)]), some (.loc st0.length), some (nD x), b5, b6, b7], st0 ++ [.dT kvs'], .inl ?_, ⟨kvs', _, _, _, _, rfl, rfl, d', ?_, g'⟩, hl, by omega⟩
      · exact row_turn e
      · show kvs'.length + x * ((s.idx true).length + 1) ≤ _
        omega)
  rw [fold_dn] at this
  simpa using this
end K02

namespace K02
open PySem Cl
open L2 (atI ixN Key)
theorem ways_body {cf : CF} {s1 : CS} {st st' : Store} {p : D} {l0 l1 : List Nat} {a2 a4 a5 a6 a7 l' : Option D}
    (h : evS cf s1 [some p, some (.lst [.lst (lD l0), .lst (lD l1)]), some (.tup [.int (l0.length : Nat), .int (l1.length : Nat)]), some (.loc st.length), none, none, none, none] (st ++ [.dT [(kk l0.length l1.length, .int 1)]]) = some (.nx [some p, l', a2, some (.loc st.length), a4, a5, a6, a7] st')) :
    (Df.mk "_ways" ["puts", "lanes"] ["puts", "lanes", "most", "found", "ones", "others", "spot", "number"] (.cons (.asg (.nm 2) (.tup (.cons (.bi .len (.cons (.idx (.var 1) (.int 0)) .nil)) (.cons (.bi .len (.cons (.idx (.var 1) (.int 1)) .nil)) .nil)))) (.cons (.asg (.nm 3) (.dct1 (.var 2) (.int 1))) (.cons s1 (.cons (.ret (.var 3)) .nil)))) false).run cf [p, .lst [.lst (lD l0), .lst (lD l1)]] st = some (.ok (.loc st.length), st') := by
  simp only [kk] at h
  simp [dct1D, keyD]
  rw [h]
  simp [Df.fin]
theorem ways_ok {k : Nat} {st : Store} {s : S} {q : Q} (j : J s q) (hA : (s.idx false).length ≤ 200) (hB : (s.idx true).length ≤ 200) :
    ∃ kvs, calls TT (k + 2) "_ways" [.tup (q.ps.map encQ), .lst [.lst (lD (s.idx false)), .lst (lD (s.idx true))]] st = some (.ok (.loc st.length), st ++ [.dT kvs]) ∧ Done s q kvs 0 0 := by
  obtain ⟨env', st', e, kvs, a4, a5, a6, a7, rfl, rfl, d, _, _⟩ := outer_ok (k := k) (st0 := st) j hA hB [some (.tup (q.ps.map encQ)), some (.lst [.lst (lD (s.idx false)), .lst (lD (s.idx true))]), some (.tup [.int ((s.idx false).length : Nat), .int ((s.idx true).length : Nat)]), some (.loc st.length), none, none, none, none] (st ++ [.dT [(kk (s.idx false).length (s.idx true).length, .int 1)]])
    ⟨_, _, _, _, _, rfl, rfl, fun i j hi hj h => by omega, by simp, by simp [gK, nD]⟩
  refine ⟨kvs, ?_, d⟩
  rw [at__ways]
  exact ways_body e
theorem weaving_count_body {cf : CF} {st : Store} {run p l v : D} {kvs : Kvs} (h1 : cf "_puts" [run] st = some (.ok p, st)) (h2 : cf "_lanes" [p] st = some (.ok l, st)) (h3 : cf "_ways" [p, l] st = some (.ok (.loc st.length), st ++ [.dT kvs])) (g : gK kvs (kk 0 0) = some v) (hv : noL v = true) :
    d_weaving_count.run cf [run] st = some (.ok v, st) := by
  simp [kk] at g
  simp [d_weaving_count, c_weaving_count, h1, h2, h3, keyD, g]
  exact fin_app hv
theorem weaving_count_ok {k : Nat} {st : Store} (r : List Ev) (hr : Fit r {}) (h200 : (tr r).puts.length ≤ 200) : calls TT (k + 3) "weaving_count" [enc r] st = some (.ok (.int (Wy (tr r) (quads r) 0 0 : Nat)), st) := by
  have j := tr_J hr
  have len : ∀ b, ((tr r).idx b).length ≤ 200 := fun b => by
    have := List.length_filter_le (fun n => (tr r).own n == b) (List.range (tr r).puts.length)
    rw [List.length_range] at this
    unfold S.idx
    omega
  rw [at_weaving_count]
  obtain ⟨kvs, e, d⟩ := ways_ok (k := k) (st := st) j (len false) (len true)
  have g := d 0 0 (Nat.zero_le _) (Nat.zero_le _) (.inr ⟨rfl, Nat.le_refl _⟩)
  exact weaving_count_body (quads_ok r hr.len) (lanes_ok j (by omega)) e g rfl
end K02

namespace K02
open PySem Cl
open L2 (atI ixN Key)
/-! ### _is_order -/
def lane (s : S) (b : Bool) (row : List Nat) : List Nat := row.filter fun n => s.own n == b
structure Row (s : S) (q : Q) (row : List Nat) : Prop where
  lt : ∀ n ∈ row, n < s.puts.length
  asc : ∀ b, Asc (lane s b row)
  cau : ∀ a x c, row = a ++ x :: c → ∀ y ∈ c, s.own y ≠ s.own x → q.hd x ≤ q.rk y
theorem Row.nodup {s : S} {q : Q} {row : List Nat} (h : Row s q row) : row.Nodup := by
  refine nodup_two (fun n => s.own n == false) (asc_nodup (h.asc false)) ?_
  have := asc_nodup (h.asc true)
  have e : (fun n => !(s.own n == false)) = fun n => s.own n == true := by funext n; cases s.own n <;> rfl
  rw [e]
  exact this
theorem Row.srt {s : S} {q : Q} {row : List Nat} (h : Row s q row) (b : Bool) : (srtN row).filter (fun n => s.own n == b) = lane s b row :=
  asc_ext (asc_filter _ (srtN_asc h.nodup)) (h.asc b) fun x => by unfold lane; rw [List.mem_filter, List.mem_filter, srtN_mem]
theorem lane_at {s : S} {a c : List Nat} {x : Nat} {b : Bool} (h : s.own x = b) : (lane s b (a ++ x :: c))[(lane s b a).length]? = some x := by
  simp [lane, h]
theorem lane_oth {s : S} {a c : List Nat} {x : Nat} {b : Bool} (h : s.own x = b) : ((lane s (!b) (a ++ x :: c)).drop (lane s (!b) a).length).take 1 = (lane s (!b) c).take 1 := by
  have : (s.own x == !b) = false := by rw [h]; cases b <;> rfl
  simp [lane, List.filter_cons, this]
theorem cut_one (l : List Nat) (n : Nat) : cutD (lD l) (some (n : Int)) (some ((n : Int) + 1)) = lD ((l.drop n).take 1) := by
  unfold cutD
  have h1 : HT.sIx (lD l).length 0 (some (n : Int)) = min n (lD l).length := HT.sIx_nat _ _ _
  have h2 : HT.sIx (lD l).length (lD l).length (some ((n : Int) + 1)) = min (n + 1) (lD l).length := HT.sIx_nat _ _ (n + 1)
  rw [h1, h2, lD_len, drop_lD]
  by_cases h : n + 1 ≤ l.length
  · rw [Nat.min_eq_left h, Nat.min_eq_left (by omega)]
    simp [lD, List.map_take]
  · rw [Nat.min_eq_right (show l.length ≤ n + 1 by omega), Nat.min_eq_right (show l.length ≤ n by omega), List.drop_of_length_le (Nat.le_refl _), List.drop_of_length_le (show l.length ≤ n by omega)]
    simp [lD]
def InvI (s : S) (q : Q) (nums : D) (row : List Nat) (st0 : Store) (a : List Nat) (env : Cl.Env) (st : Store) : Prop :=
  ∃ (a3 a6 a7 a8 : Option D), env = [some (.tup (q.ps.map encQ)), some nums, some (.tup (lD row)), a3, some (.lst [.lst (lD (lane s false row)), .lst (lD (lane s true row))]), some (.loc st0.length), a6, a7, a8] ∧ st = st0 ++ [.lst [.int ((lane s false a).length : Nat), .int ((lane s true a).length : Nat)]]
theorem x_ord_1 {cf : CF} {st : Store} {s : S} {q : Q} (j : J s q) (x : Nat) (hx : x < s.puts.length) (l : List Nat) (hl : ∀ n ∈ l, n < s.puts.length) (hn : l.length ≤ 100000) (a1 a2 a4 a5 a6 a8 : Option D) :
    (ev cf x__is_order_1 [some (.tup (q.ps.map encQ)), a1, a2, some (nD x), a4, a5, a6, some (.lst (lD l)), a8]).x st = some (.ok (.f (l.map fun y => D.bl (decide (q.rk y < q.hd x)))), st) :=
  comp_all (x := x__is_order_1) (f := nD) (src := .fix (lD l)) rfl (by simp [overD]) rfl rfl hn (fun n hm => by
    simp [nD, quad_at j (hl n hm), quad_at j hx, encQ])
theorem any_no {x : Nat} {q : Q} (l : List Nat) (h : ∀ y ∈ l, q.hd x ≤ q.rk y) : ((l.map fun y => decide (q.rk y < q.hd x)).any id) = false := by
  rw [List.any_eq_false]
  intro b hb
  obtain ⟨y, hy, rfl⟩ := List.mem_map.mp hb
  have := h y hy
  simp; omega
theorem ord_turn {cf : CF} {st0 : Store} {s : S} {q : Q} (j : J s q) (nums : D) {row : List Nat} (hr : Row s q row) (a : List Nat) (x : Nat) (c : List Nat) (he : row = a ++ x :: c) (env : Cl.Env) (st : Store) (h : InvI s q nums row st0 a env st) :
    ∃ env' st', turnS cf (.nm 3) b__is_order_1 (nD x) env st = some (.nx env' st') ∧ InvI s q nums row st0 (a ++ [x]) env' st' := by
  obtain ⟨a3, a6, a7, a8, rfl, rfl⟩ := h
  have hx : x < s.puts.length := hr.lt x (by rw [he]; simp)
  have hq := quad_at j hx
  have hc : ∀ y ∈ c, y < s.puts.length := fun y hy => hr.lt y (by rw [he]; simp [hy])
  have hcau := hr.cau a x c he
  cases ho : s.own x with
  | false =>
    have l1 : atI (lD (lane s false row)) ((lane s false a).length : Int) = some (nD x) := by rw [atI_nat, lD, List.getElem?_map, he, lane_at ho]; rfl
    have l2 : cutD (lD (lane s true row)) (some ((lane s true a).length : Int)) (some (((lane s true a).length : Int) + 1)) = lD ((lane s true c).take 1) := by
      rw [cut_one, he]; exact congrArg lD (lane_oth (b := false) ho)
    have hm : ∀ y ∈ (lane s true c).take 1, y ∈ c ∧ s.own y = true := fun y hy => by
      have := List.mem_filter.mp (List.mem_of_mem_take hy)
      exact ⟨this.1, by simpa using this.2⟩
    have ht : ((lane s true c).take 1).length ≤ 100000 := by simp; omega
    generalize (lane s true c).take 1 = t at l2 hm ht
    have x1 := fun st a1 a2 a4 a5 a6 a8 => x_ord_1 (cf := cf) (st := st) j x hx t (fun n hn => hc n (hm n hn).1) ht a1 a2 a4 a5 a6 a8
    have b1 := bls_map (fun y => decide (q.rk y < q.hd x)) t
    have n1 := any_no (q := q) (x := x) t (fun y hy => hcau y (hm y hy).1 (by rw [(hm y hy).2, ho]; simp))
    simp only [nD] at l1 x1
    generalize (t.map fun y => D.bl (decide (q.rk y < q.hd x))) = ys at x1 b1
    generalize (t.map fun y => decide (q.rk y < q.hd x)) = bs at b1 n1
    refine ⟨[some (.tup (q.ps.map encQ)), some nums, some (.tup (lD row)), some (nD x), some (.lst [.lst (lD (lane s false row)), .lst (lD (lane s true row))]), some (.loc st0.length), some (.int 0), some (.lst (lD t)), a8], st0 ++ [.lst [.int ((lane s false a).length + 1 : Nat), .int ((lane s true a).length : Nat)]], ?_, ⟨_, _, _, _, rfl, by simp [lane, ho]⟩⟩
    simp only [nD]
    simp only [b__is_order_1, turnS, bdT, evSs, evS, thnS, ho] 
    simp [hq, encQ, ho, slcD, l2, l1, x1, b1, n1]
  | true =>
    have l1 : atI (lD (lane s true row)) ((lane s true a).length : Int) = some (nD x) := by rw [atI_nat, lD, List.getElem?_map, he, lane_at ho]; rfl
    have l2 : cutD (lD (lane s false row)) (some ((lane s false a).length : Int)) (some (((lane s false a).length : Int) + 1)) = lD ((lane s false c).take 1) := by
      rw [cut_one, he]; exact congrArg lD (lane_oth (b := true) ho)
    have hm : ∀ y ∈ (lane s false c).take 1, y ∈ c ∧ s.own y = false := fun y hy => by
      have := List.mem_filter.mp (List.mem_of_mem_take hy)
      exact ⟨this.1, by simpa using this.2⟩
    have ht : ((lane s false c).take 1).length ≤ 100000 := by simp; omega
    generalize (lane s false c).take 1 = t at l2 hm ht
    have x1 := fun st a1 a2 a4 a5 a6 a8 => x_ord_1 (cf := cf) (st := st) j x hx t (fun n hn => hc n (hm n hn).1) ht a1 a2 a4 a5 a6 a8
    have b1 := bls_map (fun y => decide (q.rk y < q.hd x)) t
    have n1 := any_no (q := q) (x := x) t (fun y hy => hcau y (hm y hy).1 (by rw [(hm y hy).2, ho]; simp))
    simp only [nD] at l1 x1
    generalize (t.map fun y => D.bl (decide (q.rk y < q.hd x))) = ys at x1 b1
    generalize (t.map fun y => decide (q.rk y < q.hd x)) = bs at b1 n1
    refine ⟨[some (.tup (q.ps.map encQ)), some nums, some (.tup (lD row)), some (nD x), some (.lst [.lst (lD (lane s false row)), .lst (lD (lane s true row))]), some (.loc st0.length), some (.int 1), some (.lst (lD t)), a8], st0 ++ [.lst [.int ((lane s false a).length : Nat), .int ((lane s true a).length + 1 : Nat)]], ?_, ⟨_, _, _, _, rfl, by simp [lane, ho]⟩⟩
    simp only [nD]
    simp only [b__is_order_1, turnS, bdT, evSs, evS, thnS, ho] 
    simp [hq, encQ, ho, slcD, l2, l1, x1, b1, n1]
end K02

namespace K02
open PySem Cl
open L2 (atI ixN Key)
theorem srtN_len (l : List Nat) : (srtN l).length = l.length := (srtN_perm l).length_eq
theorem x_ord_2 {cf : CF} {st : Store} {s : S} {q : Q} (j : J s q) {row : List Nat} (hr : Row s q row) (hl : row.length ≤ 100000) (b : Bool) (a1 a3 a4 a5 a7 a8 : Option D) :
    (ev cf x__is_order_2 [some (.tup (q.ps.map encQ)), a1, some (.tup (lD row)), a3, a4, a5, some (.int (sd b)), a7, a8]).x st = some (.ok (.f (lD (lane s b row))), st) := by
  rw [comp_ok (x := x__is_order_2) (l := srtN row) (f := nD) (src := .fix (lD (srtN row))) (gg := fun n => if s.own n = b then some (nD n) else none) rfl (by simp [overD]) rfl rfl (by rw [srtN_len]; exact hl) (fun n hm => by
    have hn : n < s.puts.length := hr.lt n ((srtN_mem row n).mp hm)
    by_cases c : s.own n = b
    · subst c; simp [nD, quad_at j hn, encQ]
    · have : ¬ sd (s.own n) = sd b := by rw [sd_inj]; exact c
      simp [nD, quad_at j hn, encQ, c, this])]
  congr 4
  rw [← hr.srt b]
  generalize srtN row = l
  induction l with
  | nil => rfl
  | cons a l ih => by_cases c : s.own a = b <;> simp [List.filterMap_cons, List.filter_cons, c, ih] <;> simp [lD]
theorem is_order_body {cf : CF} {s1 : CS} {e3 : CE} {st : Store} {p nums row : D} {L0 L1 : List D} {a3 a4 a5 a6 a7 a8 : Option D}
    (h1 : ∀ st, (ev cf (.cmp .NotEq (.bi .sorted (.cons (.var 2) .nil)) (.bi .sorted (.cons (.var 1) .nil))) [some p, some nums, some row, none, none, none, none, none, none]).t st = some (.ok false, st))
    (h2 : (ev cf e3 [some p, some nums, some row, none, none, none, none, none, none]).x st = some (.ok (.f [.lst L0, .lst L1]), st))
    (h3 : ∃ t, evS cf s1 [some p, some nums, some row, none, some (.lst [.lst L0, .lst L1]), some (.loc st.length), none, none, none] (st ++ [.lst [.int 0, .int 0]]) = some (.nx [some p, some nums, some row, a3, a4, a5, a6, a7, a8] (st ++ t))) :
    (Df.mk "_is_order" ["puts", "numbers", "row"] ["puts", "numbers", "row", "number", "lanes", "come", "side", "others", "own"] (.cons (.ite (.cmp .NotEq (.bi .sorted (.cons (.var 2) .nil)) (.bi .sorted (.cons (.var 1) .nil))) (.cons (.ret (.bl false)) .nil) .nil) (.cons (.par 4 5 e3 (.adopt (.lst (.cons (.int 0) (.cons (.int 0) .nil))))) (.cons s1 (.cons (.ret (.bl true)) .nil)))) true).run cf [p, nums, row] st = some (.ok (.bl true), st) := by
  obtain ⟨t, h3⟩ := h3
  have h1 := h1 st
  simp only [Df.run, evSs, evS, thnS, evT, evX] at h1 ⊢
  simp only [startE, List.length_cons, List.length_nil, List.map_cons, List.map_nil, List.replicate, List.cons_append, List.nil_append, if_true] at h1 ⊢
  simp only [h1]
  simp [h2]
  rw [h3]
  simp
  exact fin_app (d := .bl true) rfl
theorem is_order_ok {k : Nat} {st : Store} {s : S} {q : Q} (j : J s q) {row : List Nat} (hr : Row s q row) (hl : row.length ≤ 100000) (nums : D) (ns : List Nat) (hn : nums = .lst (lD ns) ∨ nums = .tup (lD ns)) (he : srtN row = srtN ns) :
    calls TT (k + 1) "_is_order" [.tup (q.ps.map encQ), nums, .tup (lD row)] st = some (.ok (.bl true), st) := by
  rw [at__is_order]
  have hsr : ∀ st, (ev (calls TT k) (.cmp .NotEq (.bi .sorted (.cons (.var 2) .nil)) (.bi .sorted (.cons (.var 1) .nil))) [some (.tup (q.ps.map encQ)), some nums, some (.tup (lD row)), none, none, none, none, none, none]).t st = some (.ok false, st) := fun st => by
    have e := eqD_lst (st := st) (srtN ns) (srtN ns)
    rcases hn with rfl | rfl
    · simp [e, he]
    · simp [e, he]
  have x2 := fun st b a1 a3 a4 a5 a7 a8 => x_ord_2 (cf := calls TT k) (st := st) j hr hl b a1 a3 a4 a5 a7 a8
  have x20 := fun st => x2 st false
  have x21 := fun st => x2 st true
  simp only [sd_f, sd_t] at x20 x21
  have h3 : (ev (calls TT k) x__is_order_3 [some (.tup (q.ps.map encQ)), some nums, some (.tup (lD row)), none, none, none, none, none, none]).x st = some (.ok (.f [.lst (lD (lane s false row)), .lst (lD (lane s true row))]), st) := by
    simp [x__is_order_3, overD, compGo, x20, x21]
  obtain ⟨env', st', e, a3, a6, a7, a8, rfl, rfl⟩ := frs_ok (cf := calls TT k) (s := l__is_order_1) (l := row) (f := nD) (src := .fix (lD row)) (env := [some (.tup (q.ps.map encQ)), some nums, some (.tup (lD row)), none, some (.lst [.lst (lD (lane s false row)), .lst (lD (lane s true row))]), some (.loc st.length), none, none, none]) (st := st ++ [.lst [.int 0, .int 0]])
    (fun l a => row = a ++ l) (InvI s q nums row st) (fun a x => a ++ [x]) [] rfl (evI_over rfl) rfl (fun _ _ _ _ => rfl) rfl ⟨none, none, none, none, rfl, rfl⟩ (fun a x l env st' p i => by
      obtain ⟨env', st2, e1, i1⟩ := ord_turn (cf := calls TT k) j nums hr a x l p env st' i
      exact ⟨env', st2, .inl e1, i1, by simp [p]⟩)
  exact is_order_body (a3 := a3) (a6 := a6) (a7 := a7) (a8 := a8) hsr h3 ⟨_, e⟩
theorem is_weaving_ok {k : Nat} {st : Store} (r : List Ev) (hr : Fit r {}) (row : List Nat) (h : Row (tr r) (quads r) row) (hl : row.length ≤ 100000) (he : srtN row = List.range (tr r).puts.length) :
    calls TT (k + 3) "is_weaving" [enc r, .tup (lD row)] st = some (.ok (.bl true), st) := by
  have j := tr_J hr
  have hn := (tr_len hr).1
  rw [at_is_weaving]
  have io := is_order_ok (k := k + 1) (st := st) j h hl (.lst (lD (List.range (tr r).puts.length))) (List.range (tr r).puts.length) (.inl rfl) (by rw [he, srtN_self (asc_range _)])
  have e : rngD 0 ((tr r).puts.length : Int) = lD (List.range (tr r).puts.length) := by
    have := rngD_nat 0 (tr r).puts.length
    rw [List.range_eq_range']
    exact this
  have ob : okB ((tr r).puts.length : Int) = true := by unfold okB; simp; omega
  simp [d_is_weaving, c_is_weaving, quads_ok r hr.len, is_row_ok row hl, quad_len j, ob, show okB 0 = true from rfl, e, io]
  exact fin_same rfl
theorem is_weaving_of_body {cf : CF} {s1 : CS} {st : Store} {run nums row p : D} {a4 : Option D}
    (h1 : cf "_puts" [run] st = some (.ok p, st)) (h2 : evS cf s1 [some run, some nums, some row, some p, none] st = some (.nx [some run, some nums, some row, some p, a4] st))
    (h3 : cf "_is_row" [row] st = some (.ok (.bl true), st)) (h4 : cf "_is_order" [p, nums, row] st = some (.ok (.bl true), st)) :
    (Df.mk "is_weaving_of" ["run", "numbers", "thing"] ["run", "numbers", "thing", "puts", "number"] (.cons (.asg (.nm 3) (.cal "_puts" (.cons (.var 0) .nil))) (.cons s1 (.cons (.ret (.and (.cal "_is_row" (.cons (.var 2) .nil)) (.cal "_is_order" (.cons (.var 3) (.cons (.var 1) (.cons (.var 2) .nil)))))) .nil))) true).run cf [run, nums, row] st = some (.ok (.bl true), st) := by
  simp [h1]
  rw [h2]
  simp [h3, h4]
  exact fin_same rfl
theorem is_weaving_of_ok {k : Nat} {st : Store} (r : List Ev) (hr : Fit r {}) (row ns : List Nat) (h : Row (tr r) (quads r) row) (hl : row.length ≤ 100000) (he : srtN row = ns) (hs : srtN ns = ns) :
    calls TT (k + 3) "is_weaving_of" [enc r, .tup (lD ns), .tup (lD row)] st = some (.ok (.bl true), st) := by
  have j := tr_J hr
  have hn := (tr_len hr).1
  have hlt : ∀ n ∈ ns, n < (tr r).puts.length := fun n hn => h.lt n ((srtN_mem row n).mp (by rw [he]; exact hn))
  rw [at_is_weaving_of]
  have io := is_order_ok (k := k + 1) (st := st) j h hl (.tup (lD ns)) ns (.inr rfl) (by rw [he, hs])
  obtain ⟨env', st', e, a4, rfl, rfl⟩ := frs_ok (cf := calls TT (k + 2)) (s := l_is_weaving_of_1) (l := ns) (f := nD) (src := .fix (lD ns)) (env := [some (enc r), some (.tup (lD ns)), some (.tup (lD row)), some (.tup ((quads r).ps.map encQ)), none]) (st := st)
    (fun l _ => ∀ n ∈ l, n < (tr r).puts.length) (fun (_ : Unit) env st' => ∃ a4, env = [some (enc r), some (.tup (lD ns)), some (.tup (lD row)), some (.tup ((quads r).ps.map encQ)), a4] ∧ st' = st) (fun _ _ => ()) () rfl (evI_over rfl) rfl (fun _ _ _ _ => rfl) hlt ⟨none, rfl, rfl⟩ (fun _ x l env st' p i => by
      obtain ⟨a4, rfl, rfl⟩ := i
      have hx := p x List.mem_cons_self
      refine ⟨[some (enc r), some (.tup (lD ns)), some (.tup (lD row)), some (.tup ((quads r).ps.map encQ)), some (nD x)], st', .inl ?_, ⟨_, rfl, rfl⟩, fun n hn => p n (List.mem_cons_of_mem _ hn)⟩
      simp [b_is_weaving_of_1, nD, quad_len j, hx])
  exact is_weaving_of_body (quads_ok r hr.len) e (is_row_ok row hl) io
theorem reads_ok {k : Nat} {st : Store} (r : List Ev) (hr : Fit r {}) (row : List Nat) (h : Row (tr r) (quads r) row) (hl : row.length ≤ 4000) :
    calls TT (k + 3) "reads" [enc r, .tup (lD row)] st = some (.ok (.tup (lD (row.map (tr r).let))), st) := by
  have j := tr_J hr
  have hn := (tr_len hr).1
  rw [at_reads]
  have io := is_order_ok (k := k + 1) (st := st) j h (by omega) (.tup (lD row)) row (.inr rfl) rfl
  have x2 : ∀ a1 a2 a5, (ev (calls TT (k + 2)) x_reads_2 [some (enc r), a1, a2, some (.tup ((quads r).ps.map encQ)), some (.tup (lD row)), a5]).x st = some (.ok (.f (lD row)), st) := fun a1 a2 a5 => by
    rw [comp_ok (x := x_reads_2) (l := row) (f := nD) (src := .fix (lD row)) (gg := fun n => some (nD n)) rfl (by simp [overD]) rfl rfl (by omega) (fun n hm => by
      have hx := h.lt n hm
      simp [nD, quad_len j, hx])]
    simp [lD]
  have x1 : ∀ a1 a2 a5, (ev (calls TT (k + 2)) x_reads_1 [some (enc r), a1, a2, some (.tup ((quads r).ps.map encQ)), some (.tup (lD row)), a5]).x st = some (.ok (.f (row.map fun n => nD ((tr r).let n))), st) := fun a1 a2 a5 =>
    comp_all (x := x_reads_1) (f := nD) (src := .fix (lD row)) rfl (by simp [overD]) rfl rfl (by omega) (fun n hm => by
      have hx := h.lt n hm
      simp [nD, quad_at j hx, encQ])
  have nd : (row.map Int.ofNat).Nodup := by
    have := h.nodup
    exact List.Pairwise.map _ (fun a b h e => h (Int.ofNat.inj e)) this
  have e : (row.map fun n => nD ((tr r).let n)) = lD (row.map (tr r).let) := by simp [lD, List.map_map, Function.comp_def]
  simp [d_reads, c_reads, quads_ok r hr.len, tuple_of_ok row (by omega), is_row_ok row (by omega), x2, lenSD, nd, hl, io, x1, e]
  exact fin_same (d := .tup (lD _)) (noL_lD _)
end K02

namespace K02
open PySem Cl
/-! ### what a side knows is causal -/
theorem hd_old {s : S} {q : Q} (j : J s q) {e : Ev} {i : Nat} (hi : i < s.puts.length) : (q.step e).hd i = q.hd i := by
  have hq := quad_len j
  unfold Q.hd
  rw [qstep_ps]
  split
  · simp [List.getElem?_append_left (show i < q.ps.length by omega)]
  · rfl
theorem lane_old {s : S} {e : Ev} {l : List Nat} (h : ∀ n ∈ l, n < s.puts.length) (b : Bool) : lane (s.step e) b l = lane s b l := filter_own h (fun x => x == b)
def Cau (s : S) (q : Q) : Prop := ∀ b i x, (s.kn b)[i]? = some x → q.hd x ≤ (lane s (!s.own x) ((s.kn b).take i)).length
theorem Cau.nil : Cau {} {} := fun b i x h => by cases b <;> simp [S.kn] at h
theorem Cau.step {s : S} {q : Q} {e : Ev} (j : J s q) (c : Cau s q) (h : okE s e) : Cau (s.step e) (q.step e) := by
  intro b i x hx
  have w := j.wf
  have old : ∀ {i x}, (s.kn b)[i]? = some x → (q.step e).hd x ≤ (lane (s.step e) (!(s.step e).own x) ((s.kn b).take i)).length := fun {i x} hx => by
    have hl := w.kn b x (List.mem_of_getElem? hx)
    rw [hd_old j hl, own_lt hl, lane_old (fun n hn => w.kn b n (List.mem_of_mem_take hn))]
    exact c b i x hx
  rw [step_kn h] at hx ⊢
  by_cases hb : b = e.1
  · rw [if_pos hb] at hx ⊢
    by_cases hi : i < (s.kn b).length
    · rw [List.getElem?_append_left hi] at hx
      rw [List.take_append_of_le_length (by omega)]
      exact old hx
    · have hi2 : i = (s.kn b).length := by
        have := (List.getElem?_eq_some_iff.mp hx).1
        simp at this
        omega
      subst hi2
      have hx2 : x = s.num e := by simpa using hx.symm
      subst hx2
      rw [List.take_left' rfl]
      obtain ⟨own, n⟩ := e
      replace hb : b = own := hb
      subst hb
      by_cases hp : 0 < n
      · have hnum : s.num (b, n) = s.puts.length := by simp [S.num, hp]
        have hdn : (q.step (b, n)).hd s.puts.length = q.h b := by
          have hq := quad_len j
          unfold Q.hd
          rw [qstep_ps, if_pos hp, ← hq]
          simp
        rw [hnum, own_new hp, hdn, j.ch b, lane_old (w.kn b)]
        simp only [lane, ne_not]
        exact Nat.le_refl _
      · have hr : s.rd b ≠ [] := h.resolve_left hp
        obtain ⟨y, r, hy⟩ := List.exists_cons_of_ne_nil hr
        have hnum : s.num (b, n) = y := by simp [S.num, hp, hy]
        have hyl : y < s.puts.length := w.rd b y (by rw [hy]; exact List.mem_cons_self)
        have hyo : s.own y = !b := by
          have : y ∈ s.idx (!b) := by rw [w.fifo b, hy]; simp
          exact beq_iff_eq.mp (List.mem_filter.mp this).2
        rw [hnum, hd_old j hyl, own_lt hyl, lane_old (w.kn b), hyo]
        have h1 := hd_le j hyl
        rw [hyo, Bool.not_not] at h1
        have h2 := ct_le s b (Nat.le_of_lt hyl)
        rw [Bool.not_not]
        have h3 : (lane s b (s.kn b)).length = s.ct b s.puts.length := by
          unfold lane
          rw [← w.own b]
          rfl
        omega
  · rw [if_neg hb] at hx ⊢
    exact old hx
theorem Cau.all : ∀ (r : List Ev) (s : S) (q : Q), J s q → Cau s q → Ok r s → Cau (r.foldl S.step s) (r.foldl Q.step q)
  | [], _, _, _, c, _ => c
  | e :: r, _, _, j, c, o => Cau.all r _ _ (j.step o.1) (c.step j o.1) o.2
theorem tr_Cau {r : List Ev} (hr : Fit r {}) : Cau (tr r) (quads r) := Cau.all r {} {} J.nil Cau.nil hr.1
theorem rng_mono (p : Nat → Bool) {n m : Nat} (h : n ≤ m) : ((List.range n).filter p).length ≤ ((List.range m).filter p).length := by
  obtain ⟨d, rfl⟩ : ∃ d, m = n + d := ⟨m - n, by omega⟩
  rw [List.range_add (n := n), List.filter_append, List.length_append]
  omega
theorem asc_len {p : Nat → Bool} {l : List Nat} : ∀ {y : Nat}, Asc l → (∀ z ∈ l, z < y ∧ p z = true) → l.length ≤ ((List.range y).filter p).length := by
  refine snoc_ind (P := fun l => ∀ {y : Nat}, Asc l → (∀ z ∈ l, z < y ∧ p z = true) → l.length ≤ ((List.range y).filter p).length) (fun _ _ => by simp) (fun l e ih {y} h1 h2 => ?_) l
  obtain ⟨h3, _, h4⟩ := List.pairwise_append.mp h1
  have he := h2 e (by simp)
  have := ih (y := e) h3 fun z hz => ⟨h4 z hz e (by simp), (h2 z (by simp [hz])).2⟩
  have m : ((List.range (e + 1)).filter p).length ≤ ((List.range y).filter p).length := by
    exact rng_mono p (by omega)
  have m2 : ((List.range (e + 1)).filter p).length = ((List.range e).filter p).length + 1 := by
    rw [List.range_succ, List.filter_append]
    simp [he.2]
  simp
  omega
theorem bne_not {a b : Bool} (h : a ≠ b) : a = !b := by cases a <;> cases b <;> simp_all
theorem Row.kn {s : S} {q : Q} (j : J s q) (c : Cau s q) (b : Bool) : Row s q (s.kn b) := by
  have w := j.wf
  have asc : ∀ b', Asc (lane s b' (s.kn b)) := fun b' => by
    by_cases h : b' = b
    · subst h
      unfold lane
      rw [← w.own b']
      exact asc_filter _ (asc_range _)
    · have h2 := bne_not h
      subst h2
      have := asc_filter (fun n => s.own n == !b) (asc_range s.puts.length)
      have e := w.fifo b
      unfold S.idx at e
      rw [e] at this
      have := (List.pairwise_append.mp this).1
      simpa [lane, ne_not] using this
  refine ⟨w.kn b, asc, fun a x c' he y hy ho => ?_⟩
  have h1 := c b a.length x (by rw [he]; simp)
  rw [he, List.take_left' rfl] at h1
  have ho2 := bne_not ho
  rw [← ho2] at h1
  have hyl : y < s.puts.length := w.kn b y (by rw [he]; simp [hy])
  rw [rk_ct j hyl]
  have as := asc (s.own y)
  rw [he] at as
  unfold lane at as
  rw [List.filter_append] at as
  obtain ⟨a1, a2, a3⟩ := List.pairwise_append.mp as
  have := asc_len (p := fun i => s.own i == s.own y) (y := y) a1 fun z hz => ⟨a3 z hz y (List.mem_filter.mpr ⟨List.mem_cons_of_mem _ hy, by simp⟩), (List.mem_filter.mp hz).2⟩
  exact Nat.le_trans h1 this
theorem Row.rng {s : S} {q : Q} (j : J s q) : Row s q (List.range s.puts.length) := by
  refine ⟨fun n hn => List.mem_range.mp hn, fun b => asc_filter _ (asc_range _), fun a x c he y hy ho => ?_⟩
  have p := asc_range s.puts.length
  have hx : x < s.puts.length := List.mem_range.mp (by rw [he]; simp)
  have hy2 : y < s.puts.length := List.mem_range.mp (by rw [he]; simp [hy])
  rw [he] at p
  have hxy : x < y := (List.pairwise_cons.mp (List.pairwise_append.mp p).2.1).1 y hy
  have h1 := hd_le j hx
  rw [rk_ct j hy2]
  rw [← bne_not ho] at h1
  exact Nat.le_trans h1 (ct_le s _ (by omega))
/-! ### everything taken -/
theorem Ok.app : ∀ {a b : List Ev} {s : S}, Ok a s → Ok b (a.foldl S.step s) → Ok (a ++ b) s
  | [], _, _, _, h => h
  | _ :: _, _, _, h, h2 => ⟨h.1, Ok.app h.2 h2⟩
theorem Ok.left : ∀ {a b : List Ev} {s : S}, Ok (a ++ b) s → Ok a s
  | [], _, _, _ => trivial
  | _ :: _, _, _, h => ⟨h.1, Ok.left h.2⟩
theorem fit_of {r : List Ev} (h : Ok r {}) (hl : r.length ≤ 1000) : Fit r {} := ⟨h, by simpa using hl, by simpa using hl, by simpa using hl, by simpa using hl, by simpa using hl, by simpa using hl, by simpa using hl⟩
theorem drain (b : Bool) : ∀ (k : Nat) (s : S), (s.rd b).length = k → Ok (List.replicate k (b, 0)) s ∧ ((List.replicate k (b, 0)).foldl S.step s).puts = s.puts ∧ ((List.replicate k (b, 0)).foldl S.step s).saw = s.saw ∧
    ((List.replicate k (b, 0)).foldl S.step s).kn b = s.kn b ++ s.rd b ∧ ((List.replicate k (b, 0)).foldl S.step s).rd b = [] ∧ ((List.replicate k (b, 0)).foldl S.step s).kn (!b) = s.kn (!b) ∧ ((List.replicate k (b, 0)).foldl S.step s).rd (!b) = s.rd (!b)
  | 0, s, h => ⟨trivial, rfl, rfl, by simp [List.length_eq_zero_iff.mp h], by simpa using List.length_eq_zero_iff.mp h, rfl, rfl⟩
  | k + 1, s, h => by
    have hr : s.rd b ≠ [] := fun z => by rw [z] at h; cases h
    have ok : okE s (b, 0) := .inr hr
    obtain ⟨x, r, hx⟩ := List.exists_cons_of_ne_nil hr
    have p := step_puts (s := s) (e := (b, 0))
    have w := step_saw (s := s) (e := (b, 0))
    have k1 := step_kn ok b
    have k2 := step_kn ok (!b)
    have r1 := step_rd ok b
    have r2 := step_rd ok (!b)
    have nb : ¬ (!b) = b := by cases b <;> simp
    have num : s.num (b, 0) = x := by simp [S.num, hx]
    simp only [Nat.lt_irrefl, if_false, if_true, if_neg nb, num] at p w k1 k2 r1 r2
    rw [hx] at r1
    obtain ⟨a1, a2, a3, a4, a5, a6, a7⟩ := drain b k (s.step (b, 0)) (by rw [r1]; rw [hx] at h; simpa using h)
    rw [List.replicate_succ, List.foldl_cons]
    refine ⟨⟨ok, a1⟩, a2.trans p, a3.trans w, ?_, a5, a6.trans k2, a7.trans r2⟩
    rw [a4, k1, r1, hx]
    simp
def quiet (r : List Ev) : List Ev := r ++ (tr r).home
structure Quiet (r : List Ev) : Prop where
  fit : Fit (quiet r) {}
  puts : (tr (quiet r)).puts = (tr r).puts
  saw : (tr (quiet r)).saw = (tr r).saw
  rd : ∀ b, (tr (quiet r)).rd b = []
  kn : ∀ b, (tr (quiet r)).kn b = (tr r).kn b ++ (tr r).rd b
theorem rd_le {r : List Ev} (hr : Fit r {}) (b : Bool) : ((tr r).rd b).length ≤ r.length := by
  have w := tr_wf hr
  have h1 := congrArg List.length (w.fifo b)
  rw [List.length_append] at h1
  have h2 := List.length_filter_le (fun n => (tr r).own n == !b) (List.range (tr r).puts.length)
  rw [List.length_range] at h2
  have h3 : (tr r).puts = r.filter fun e => decide (0 < e.2) := by rw [tr, puts_all]; rfl
  have h4 := List.length_filter_le (fun e : Ev => decide (0 < e.2)) r
  rw [← h3] at h4
  unfold S.idx at h1
  omega
theorem tr_app (a b : List Ev) : tr (a ++ b) = b.foldl S.step (tr a) := List.foldl_append
theorem quiet_ok {r : List Ev} (hr : Fit r {}) (hl : r.length ≤ 300) : Quiet r := by
  obtain ⟨a1, a2, a3, a4, a5, a6, a7⟩ := drain false _ (tr r) rfl
  obtain ⟨b1, b2, b3, b4, b5, b6, b7⟩ := drain true ((tr r).rd true).length (((List.replicate ((tr r).rd false).length (false, 0))).foldl S.step (tr r)) (by rw [show true = !false from rfl, a7])
  have e : tr (quiet r) = (List.replicate ((tr r).rd true).length (true, 0)).foldl S.step ((List.replicate ((tr r).rd false).length (false, 0)).foldl S.step (tr r)) := by
    rw [quiet, tr_app, S.home, List.foldl_append]
  have h0 := rd_le hr false
  have h1 := rd_le hr true
  simp only [Bool.not_true, Bool.not_false] at *
  refine ⟨fit_of (Ok.app hr.1 (Ok.app a1 b1)) (by simp [quiet, S.home]; omega), by rw [e, b2, a2], by rw [e, b3, a3], fun b => ?_, fun b => ?_⟩
  · cases b
    · rw [e, b7, a5]
    · rw [e, b5]
  · cases b
    · rw [e, b6, a4]
    · rw [e, b4, a6, a7]
theorem quads_zero : ∀ (l : List Ev) (q : Q), (∀ e ∈ l, e.2 = 0) → (l.foldl Q.step q).ps = q.ps
  | [], _, _ => rfl
  | e :: l, q, h => by
    rw [List.foldl_cons, quads_zero l _ fun z hz => h z (List.mem_cons_of_mem _ hz), qstep_ps, if_neg (by rw [h e List.mem_cons_self]; omega)]
theorem quiet_sees {r : List Ev} (z : Quiet r) : sees (tr (quiet r)) (quads (quiet r)) = sees (tr r) (quads r) := by
  have e : (quads (quiet r)).ps = (quads r).ps := by
    unfold quads quiet
    rw [List.foldl_append]
    refine quads_zero _ _ fun e he => ?_
    unfold S.home at he
    rcases List.mem_append.mp he with h | h
    · rw [(List.mem_replicate.mp h).2]
    · rw [(List.mem_replicate.mp h).2]
  funext a b
  unfold sees S.own Q.rk Q.hd
  rw [e, z.puts]
theorem quiet_srt {r : List Ev} (z : Quiet r) (b : Bool) : srtN ((tr (quiet r)).kn b) = List.range (tr r).puts.length := by
  have w := tr_wf z.fit
  refine srtN_eq (kn_nodup w b) (asc_range _) fun x => ?_
  rw [← z.puts, List.mem_range]
  constructor
  · exact w.kn b x
  · intro hx
    have hi : x ∈ (tr (quiet r)).idx ((tr (quiet r)).own x) := List.mem_filter.mpr ⟨List.mem_range.mpr hx, by simp⟩
    by_cases c : (tr (quiet r)).own x = b
    · rw [c, w.own b] at hi
      exact (List.mem_filter.mp hi).1
    · rw [bne_not c, w.fifo b, z.rd b, List.append_nil] at hi
      exact (List.mem_filter.mp hi).1
/-! ### exchanged -/
def swE (e : Ev) : Ev := (!e.1, e.2)
def S.swap (s : S) : S := ⟨s.puts.map swE, s.saw, s.nums, s.k1, s.k0, s.r1, s.r0⟩
theorem step_swap (s : S) (e : Ev) : (s.step e).swap = s.swap.step (swE e) := by
  obtain ⟨own, n⟩ := e
  by_cases hp : 0 < n
  · cases own <;> simp [S.step, hp, swE, S.swap, S.know, S.send, S.kn]
  · cases own
    · cases h : s.r0 with
      | nil => simp [S.step, hp, swE, S.swap, S.rd, h]
      | cons x r => simp [S.step, hp, swE, S.swap, S.rd, h, S.know, S.setR]
    · cases h : s.r1 with
      | nil => simp [S.step, hp, swE, S.swap, S.rd, h]
      | cons x r => simp [S.step, hp, swE, S.swap, S.rd, h, S.know, S.setR]
theorem fold_swap : ∀ (r : List Ev) (s : S), (r.map swE).foldl S.step s.swap = (r.foldl S.step s).swap
  | [], _ => rfl
  | e :: r, s => by rw [List.map_cons, List.foldl_cons, ← step_swap, fold_swap r, List.foldl_cons]
theorem tr_swap (r : List Ev) : tr (r.map swE) = (tr r).swap := fold_swap r {}
theorem ok_swap : ∀ (r : List Ev) (s : S), Ok r s → Ok (r.map swE) s.swap
  | [], _, _ => trivial
  | e :: r, s, h => by
    refine ⟨?_, ?_⟩
    · obtain ⟨own, n⟩ := e
      rcases h.1 with z | z
      · exact .inl z
      · refine .inr ?_
        cases own <;> simpa [S.swap, S.rd, swE] using z
    · rw [← step_swap]
      exact ok_swap r _ h.2
theorem fit_swap {r : List Ev} (hr : Fit r {}) : Fit (r.map swE) {} := fit_of (ok_swap r {} hr.1) (by have := hr.len; simpa using this)
theorem lets_swap (s : S) (b : Bool) : s.swap.lets b = s.lets (!b) := by
  unfold S.lets
  have e : s.swap.rd b = s.rd (!b) := by cases b <;> rfl
  rw [e]
  apply List.map_congr_left
  intro n _
  unfold S.let S.swap
  by_cases h : n < s.puts.length
  · simp [swE, h]
  · simp [h]
end K02

namespace K02
open PySem Cl
open L2 (atI ixN)
/-! ### the draws -/
theorem okPre_same (n : Nat) (t w : Store) : okPre n t (t ++ w) = true := okPre_app n t w
theorem fin_head {x y : O} {t w : Store} {d : D} (hd : noL d = true) (hy : O.below (t.length + 1) y = true) : Df.fin true (x :: t) (y :: (t ++ w)) d = some (.ok d, y :: t) := by
  unfold Df.fin
  simp only [frzD_noL _ hd, if_true]
  have : okPre (x :: t).length (x :: t) (y :: (t ++ w)) = true := by
    simp [okPre, hy, okPre_app]
  rw [this]
  simp
def urnO (u0 u1 u2 : Int) : O := .lst [.int u0, .int u1, .int u2]
theorem urn_below (n : Nat) (u0 u1 u2 : Int) : O.below n (urnO u0 u1 u2) = true := by simp [urnO, O.below, belowL, below]
theorem fmod_in (x : Int) {b : Int} (h : 0 < b) : 0 ≤ x.fmod b ∧ x.fmod b < b := ⟨Int.fmod_nonneg_of_pos x h, Int.fmod_lt_of_pos x h⟩
theorem small_of {i : Int} (h1 : 0 ≤ i) (h2 : i ≤ 1000000000) : smallI i = true := by
  have h3 : (1000000000 : Int) < 2 ^ 64 := by decide
  have h4 : -(2 ^ 64 : Int) < 0 := by decide
  unfold smallI
  generalize (2 ^ 64 : Int) = w at h3 h4
  rw [Bool.and_eq_true]
  exact ⟨decide_eq_true (by omega), decide_eq_true (by omega)⟩
theorem mul_r {st : Store} {i j : Int} (h : smallI j = true) : binD st .Mult (.int i) (.int j) = some (.v (.int (i * j))) := by
  show (if smallI i || smallI j then some (E.v (.int (i * j))) else none) = _
  rw [h]; simp
theorem mul_l {st : Store} {i j : Int} (h : smallI i = true) : binD st .Mult (.int i) (.int j) = some (.v (.int (i * j))) := by
  show (if smallI i || smallI j then some (E.v (.int (i * j))) else none) = _
  rw [h]; simp
theorem add_i {st : Store} {i j : Int} : binD st .Add (.int i) (.int j) = some (.v (.int (i + j))) := rfl
theorem mod_i {st : Store} {i j : Int} (h : j ≠ 0) : binD st .Mod (.int i) (.int j) = some (.v (.int (i.fmod j))) := by
  show (if j ≠ 0 then _ else _) = _
  rw [if_pos h]
theorem div_i {st : Store} {i j : Int} (h : j ≠ 0) (h2 : j.natAbs < 1073741824) : binD st .FloorDiv (.int i) (.int j) = some (.v (.int (i.fdiv j))) := by
  show (if j ≠ 0 ∧ j.natAbs < 1073741824 then _ else _) = _
  rw [if_pos ⟨h, h2⟩]
theorem ev_bin {cf : CF} {op : Operator} {a b : CE} {env : Cl.Env} {st st1 st2 : Store} {x y : E} {z : E} (h1 : (ev cf a env).x st = some (.ok x, st1)) (h2 : (ev cf b env).x st1 = some (.ok y, st2)) (h3 : binD st2 op x.val y.val = some z) : (ev cf (.bin op a b) env).x st = some (.ok z, st2) := by
  show Cl.bnd (ev cf a env).x (fun x => Cl.bnd (ev cf b env).x fun y => fun st => Cl.lft (binD st op x.val y.val) st) st = _
  unfold Cl.bnd
  rw [h1]
  dsimp only
  rw [h2]
  dsimp only
  unfold Cl.lft
  rw [h3]
theorem ev_var {cf : CF} {env : Cl.Env} {st : Store} {i : Nat} {d : D} (h : env[i]? = some (some d)) : (ev cf (.var i) env).x st = some (.ok (.v d), st) := by simp [h]
theorem ev_int {cf : CF} {env : Cl.Env} {st : Store} {i : Int} : (ev cf (.int i) env).x st = some (.ok (.v (.int i)), st) := rfl
theorem ev_toint {cf : CF} {a : CE} {env : Cl.Env} {st : Store} {i : Int} (h : (ev cf a env).x st = some (.ok (.v (.int i)), st)) : (ev cf (.bi .int (.cons a .nil)) env).x st = some (.ok (.v (.int i)), st) := by simp [h]
theorem ev_urn {cf : CF} {env : Cl.Env} {st : Store} {i j : Nat} {L : Nat} {xs : List D} {d : D} (h : env[i]? = some (some (.loc L))) (hs : st[L]? = some (.lst xs)) (hd : atI xs (j : Int) = some d) : (ev cf (.idx (.var i) (.int (j : Nat))) env).x st = some (.ok (.v d), st) := by simp [h, hs, hd]
theorem take_ok {k : Nat} {t : Store} (u0 u1 u2 b : Int) (h0 : 0 ≤ u0) (h2 : 0 ≤ u2) (h3 : u2 ≤ 1000000) (hb : 0 < b) (hb2 : b < 1073741824) :
    ∃ d v0 v2, calls TT (k + 1) "_law_take" [.loc 0, .int b] (urnO u0 u1 u2 :: t) = some (.ok (.int d), urnO v0 u1 v2 :: t) ∧ 0 ≤ d ∧ d < b ∧ 0 ≤ v0 ∧ 0 ≤ v2 ∧ v2 ≤ u2 + 1 := by
  have hb3 : b ≠ 0 := by omega
  have hb4 : b.natAbs < 1073741824 := by omega
  rw [at__law_take]
  by_cases hp : 0 < u0
  · refine ⟨u0.fmod b, u0.fdiv b, u2, ?_, (fmod_in u0 hb).1, (fmod_in u0 hb).2, Int.fdiv_nonneg h0 (by omega), h2, by omega⟩
    simp [d__law_take, c__law_take, urnO, hp, hb3, hb4]
    have := fin_head (x := urnO u0 u1 u2) (y := urnO (u0.fdiv b) u1 u2) (t := t) (w := []) (d := .int (u0.fmod b)) rfl (urn_below _ _ _ _)
    rw [List.append_nil] at this
    exact this
  · have hs1 : smallI (39373 + (u2 + 1)) = true := small_of (by omega) (by omega)
    generalize ho : ((u1 + 48271 * (u2 + 1)) * (39373 + (u2 + 1))).fmod 2147483647 = once
    have hf := fmod_in once (b := 40009) (by decide)
    generalize hfa : once.fmod 40009 + 7 = far
    have hs2 : smallI far = true := small_of (by omega) (by omega)
    generalize htw : ((once + (u2 + 1) + u1.fdiv 1000003) * far).fmod 2147483629 = twice
    generalize hx : ((twice * 48271 + once).fmod 2147483587).fdiv 64 = x
    refine ⟨x.fmod b, u0, u2 + 1, ?_, (fmod_in x hb).1, (fmod_in x hb).2, h0, by omega, by omega⟩
    have fin := fin_head (x := urnO u0 u1 u2) (y := urnO u0 u1 (u2 + 1)) (t := t) (w := []) (d := .int (x.fmod b)) rfl (urn_below _ _ _ _)
    rw [List.append_nil] at fin
    have hs3 : smallI 48271 = true := small_of (by decide) (by decide)
    simp only [urnO] at fin ⊢
    have ix2 : ixN 3 2 = some 2 := rfl
    simp [d__law_take, c__law_take, hp, ix2, -binD, -smallI, add_i, mul_l hs3, mul_r hs1, mul_r hs2, mul_r hs3, mod_i hb3, mod_i (show (2147483647 : Int) ≠ 0 by decide), mod_i (show (40009 : Int) ≠ 0 by decide), mod_i (show (2147483629 : Int) ≠ 0 by decide), mod_i (show (2147483587 : Int) ≠ 0 by decide), div_i (show (1000003 : Int) ≠ 0 by decide) (by decide), div_i (show (64 : Int) ≠ 0 by decide) (by decide), ho, hfa, htw, hx, fin]
end K02

namespace K02
open PySem Cl
open L2 (atI ixN)
/-! ### _law_cells, _law_box -/
theorem ixN_nat {n j : Nat} (h : j < n) : ixN n (j : Int) = some j := by
  unfold ixN
  rw [if_pos (by omega), if_pos (by omega)]; simp
theorem atI_int (l : List Int) (j : Nat) (h : j < l.length) : atI (l.map D.int) (j : Int) = some (.int (l[j]?.getD 0)) := by
  rw [atI_nat, List.getElem?_map, List.getElem?_eq_getElem h]; rfl
theorem fmod_nat (a b : Nat) : (a : Int).fmod (b : Int) = ((a % b : Nat) : Int) := by
  rw [Int.fmod_eq_emod_of_nonneg _ (by omega)]; rfl
theorem noL_ints (l : List Int) : noLs (l.map D.int) = true := noLs_map (fun _ => rfl) l
theorem frz_ints (f : Nat → Option D) (l : List Int) : frzL f (l.map D.int) = some (l.map D.int) := frzL_noL f (noL_ints l)
def InvC (sc : D) (st0 : Store) (m : Nat) (env : Cl.Env) (st : Store) : Prop :=
  ∃ (cs : List Int) (a3 a4 a5 : Option D), env = [some sc, some (.int 1), some (.loc st0.length), a3, a4, a5] ∧ st = st0 ++ [.lst (cs.map .int)] ∧ 0 < cs.length
theorem cells_turn {cf : CF} {sc : D} {st0 : Store} (k : Nat) (c : Int) (hk : k ≤ 1000) (m : Nat) (env : Cl.Env) (st : Store) (h : InvC sc st0 m env st) :
    ∃ env' st', turnS cf (.tup (.cons (.nm 3) (.cons (.nm 4) .nil))) b__law_cells_1 (.tup [nD k, .int c]) env st = some (.nx env' st') ∧ InvC sc st0 m env' st' := by
  obtain ⟨cs, a3, a4, a5, rfl, rfl, hc⟩ := h
  have hm : k % cs.length < cs.length := Nat.mod_lt _ hc
  have hz : ((cs.length : Nat) : Int) ≠ 0 := by omega
  have hs : smallI ((k : Int) + 2) = true := small_of (by omega) (by omega)
  have at' := atI_int cs (k % cs.length) hm
  have ix := ixN_nat hm
  refine ⟨[some sc, some (.int 1), some (.loc st0.length), some (nD k), some (.int c), some (.int ((k % cs.length : Nat) : Int))], st0 ++ [.lst ((cs.set (k % cs.length) (cs[k % cs.length]?.getD 0 + c * ((k : Int) + 2))).map .int)], ?_, _, _, _, _, rfl, rfl, by simpa using hc⟩
  generalize hj : k % cs.length = j at *
  have fm : (k : Int).fmod (cs.length : Int) = (j : Int) := by rw [fmod_nat, hj]
  have nz : ¬ cs = [] := fun z => by rw [z] at hc; simp at hc
  simp [b__law_cells_1, nD, -binD, -smallI, mod_i hz, fm, add_i, mul_r hs, at', ix, List.map_set]
theorem cut_ints (ns : List Int) (lo hi : Option Int) : ∃ ys : List Int, cutD (ns.map .int) lo hi = ys.map .int ∧ ys.length ≤ ns.length := by
  refine ⟨(ns.drop (HT.sIx (ns.map D.int).length 0 lo)).take (HT.sIx (ns.map D.int).length (ns.map D.int).length hi - HT.sIx (ns.map D.int).length 0 lo), ?_, ?_⟩
  · unfold cutD
    rw [List.map_take, List.map_drop]
  · rw [List.length_take, List.length_drop]; omega
theorem cells_body {cf : CF} {s1 : CS} {st : Store} {sc : D} {cs0 cs : List Int} {a3 a4 a5 : Option D} (hs : sc = .lst (ns : List D) ∨ sc = .rol ns)
    (hc : (if (cutD ns none (some 1)).isEmpty then [D.int 0] else cutD ns none (some 1)) = cs0.map .int)
    (h : evS cf s1 [some sc, some (.int 1), some (.loc st.length), none, none, none] (st ++ [.lst (cs0.map .int)]) = some (.nx [some sc, some (.int 1), some (.loc st.length), a3, a4, a5] (st ++ [.lst (cs.map .int)]))) :
    (Df.mk "_law_cells" ["script", "many"] ["script", "many", "cells", "k", "cell", "at"] (.cons (.asg (.nm 2) (.adopt (.or (.bi .list (.cons (.slc (.var 0) .no (.so (.var 1))) .nil)) (.lst (.cons (.int 0) .nil))))) (.cons s1 (.cons (.ret (.var 2)) .nil))) true).run cf [sc, .int 1] st = some (.ok (.lst (cs.map .int)), st) := by
  have fin : Df.fin true st (st ++ [.lst (cs.map .int)]) (.loc st.length) = some (.ok (.lst (cs.map .int)), st) := by
    simp [Df.fin, frzD, frzAt, okPre_app, frz_ints]
  rcases hs with rfl | rfl
  · cases hz : cutD ns none (some 1) with
    | nil =>
      rw [hz] at hc
      simp at hc
      rw [← hc] at h
      simp [slcD, hz]
      rw [h]
      simp [fin]
    | cons a r =>
      rw [hz] at hc
      simp at hc
      rw [← hc] at h
      simp [slcD, hz]
      rw [h]
      simp [fin]
  · cases hz : cutD ns none (some 1) with
    | nil =>
      rw [hz] at hc
      simp at hc
      rw [← hc] at h
      simp [slcD, hz]
      rw [h]
      simp [fin]
    | cons a r =>
      rw [hz] at hc
      simp at hc
      rw [← hc] at h
      simp [slcD, hz]
      rw [h]
      simp [fin]
theorem cells_ok {k : Nat} {st : Store} (ns : List Int) (hn : ns.length ≤ 63) (sc : D) (hs : sc = .lst (ns.map .int) ∨ sc = .rol (ns.map .int)) :
    ∃ cs : List Int, 0 < cs.length ∧ calls TT (k + 1) "_law_cells" [sc, .int 1] st = some (.ok (.lst (cs.map .int)), st) := by
  obtain ⟨cs0, hc0, hl0⟩ : ∃ cs0 : List Int, (if (cutD (ns.map D.int) none (some 1)).isEmpty then [D.int 0] else cutD (ns.map D.int) none (some 1)) = cs0.map .int ∧ 0 < cs0.length := by
    obtain ⟨ys, e, _⟩ := cut_ints ns none (some 1)
    rw [e]
    cases ys with
    | nil => exact ⟨[0], rfl, by simp⟩
    | cons y ys => exact ⟨y :: ys, rfl, by simp⟩
  obtain ⟨ys, e, hy⟩ := cut_ints ns (some 1) (some 63)
  have hi : evI (calls TT k) (.enm (.slc (.var 0) (.so (.var 1)) (.so (.int 63)))) [some sc, some (.int 1), some (.loc st.length), none, none, none] (st ++ [.lst (cs0.map .int)]) = some (.ok (.fix (enmD 0 (ys.map .int))), st ++ [.lst (cs0.map .int)]) := by
    rcases hs with rfl | rfl <;> simp [slcD, e]
  obtain ⟨env', st', e2, cs, a3, a4, a5, rfl, rfl, hl⟩ := frs_ok (cf := calls TT k) (s := l__law_cells_1) (l := ys.zipIdx) (f := fun p => .tup [nD p.2, .int p.1]) (src := .fix (enmD 0 (ys.map .int))) (env := [some sc, some (.int 1), some (.loc st.length), none, none, none]) (st := st ++ [.lst (cs0.map .int)])
    (fun l (_ : Nat) => ∀ p ∈ l, p.2 ≤ 1000) (InvC sc st) (fun _ _ => 0) 0 rfl hi (by simp only [Src.items, enmD_zip, List.zipIdx_map, List.map_map, Function.comp_def]; rfl) (fun _ _ _ _ => rfl) (fun p hp => by
      obtain ⟨x, i⟩ := p
      have := List.mem_zipIdx' hp
      simp only at this ⊢
      omega) ⟨cs0, none, none, none, rfl, rfl, hl0⟩ (fun _ p l env st' hp i => by
      obtain ⟨env', st2, e1, i1⟩ := cells_turn (cf := calls TT k) p.2 p.1 (hp p List.mem_cons_self) 0 env st' i
      exact ⟨env', st2, .inl e1, i1, fun z hz => hp z (List.mem_cons_of_mem _ hz)⟩)
  exact ⟨cs, hl, by rw [at__law_cells]; exact cells_body hs hc0 e2⟩
theorem abs_nn (c : Int) : 0 ≤ (if c < 0 then -c else c) := by split <;> omega
theorem box_ok {k : Nat} (cs : List Int) (hc : 0 < cs.length) : ∃ u0 u1, 0 ≤ u0 ∧ calls TT (k + 1) "_law_box" [.lst (cs.map .int), .int 0] [] = some (.ok (.loc 0), [urnO u0 u1 0]) := by
  obtain ⟨c, r, rfl⟩ := List.exists_cons_of_length_pos hc
  have ha := abs_nn c
  generalize hA : (if c < 0 then -c else c) = A at ha
  have hb : ∃ b : Int, (if (10 : Int) ^ 18 ≤ A then 1 else 0) = b ∧ 0 ≤ b ∧ b ≤ 1 := ⟨_, rfl, by split <;> decide, by split <;> decide⟩
  obtain ⟨b, hb, b0, b1⟩ := hb
  have hs1 : smallI b = true := small_of b0 (by omega)
  refine ⟨A * b, c.fmod 2305843009213693951 + 43441 * 0 + 28460498, Int.mul_nonneg ha b0, ?_⟩
  rw [at__law_box]
  have m1 := mul_r (st := []) (i := A) hs1
  have m2 := mul_l (st := []) (i := 43441) (j := 0) (small_of (by decide) (by decide))
  have md := mod_i (st := []) (i := c) (j := 2305843009213693951) (by decide)
  have pw : binD [] .Pow (.int 10) (.int 18) = some (.v (.int (10 ^ 18))) := rfl
  have hb' : (if (1000000000000000000 : Int) ≤ A then (1 : Int) else 0) = b := hb
  by_cases hlt : (1000000000000000000 : Int) ≤ A
  · rw [if_pos hlt] at hb'
    subst hb'
    simp [d__law_box, c__law_box, -binD, -smallI, hA, pw, hlt, add_i, m1, m2, md, Df.fin, urnO]
  · rw [if_neg hlt] at hb'
    subst hb'
    simp [d__law_box, c__law_box, -binD, -smallI, hA, pw, hlt, add_i, m1, m2, md, Df.fin, urnO]
end K02

namespace K02
open PySem Cl
open L2 (atI ixN)
/-! ### _law_run -/
theorem tr_snoc (r : List Ev) (e : Ev) : tr (r ++ [e]) = (tr r).step e := by rw [tr_app]; rfl
theorem ok_snoc {r : List Ev} {e : Ev} (h : Ok r {}) (he : okE (tr r) e) : Ok (r ++ [e]) {} := Ok.app h ⟨he, trivial⟩
theorem enc_snoc (r : List Ev) (b : Bool) (n : Nat) : D.tup (r.map encE ++ [.tup [.int (sd b), .int (n : Nat)]]) = enc (r ++ [(b, n)]) := by simp [enc, encE]
def roadO (s : S) : O := .lst [.int (s.r0.length : Nat), .int (s.r1.length : Nat)]
theorem road_put (s : S) (b : Bool) (n : Nat) (h : 0 < n) : roadO (s.step (b, n)) = if b then .lst [.int ((s.r0.length : Int) + 1), .int (s.r1.length : Nat)] else .lst [.int (s.r0.length : Nat), .int ((s.r1.length : Int) + 1)] := by
  cases b <;> simp [roadO, S.step, h, S.know, S.send]
theorem road_take (s : S) (b : Bool) (h : s.rd b ≠ []) : roadO (s.step (b, 0)) = if b then .lst [.int (s.r0.length : Nat), .int ((s.r1.length : Int) - 1)] else .lst [.int ((s.r0.length : Int) - 1), .int (s.r1.length : Nat)] := by
  obtain ⟨x, r, hx⟩ := List.exists_cons_of_ne_nil h
  cases b <;> simp [S.rd] at hx <;> simp [roadO, S.step, S.rd, hx, S.know, S.setR] <;> omega
def InvG (letters most : Int) (t : Store) (u1 : Int) (n : Nat) (env : Cl.Env) (st : Store) : Prop :=
  ∃ (r : List Ev) (v0 v2 : Int) (a3 a6 a7 : Option D), env = [some (.loc 0), some (.int letters), some (.int most), a3, some (enc r), some (.loc (t.length + 1)), a6, a7] ∧
    st = urnO v0 u1 v2 :: (t ++ [roadO (tr r)]) ∧ Ok r {} ∧ r.length ≤ n ∧ 0 ≤ v0 ∧ 0 ≤ v2 ∧ v2 ≤ 500000 + 3 * n
section
variable {cf : CF} {letters most : Int} {t : Store} {x0 x1 x2 x3 : O} {rs : List D} {a c d2 d3 : Int} {a3 a6 a7 : Option D} {x : D}
theorem raw_take0 (hl : rs.length ≤ 99999) (h2 : d2 < 2) (ha : 0 < a)
    (e1 : cf "_law_take" [.loc 0, .int 2] (x0 :: (t ++ [.lst [.int a, .int c]])) = some (.ok (.int 0), x1 :: (t ++ [.lst [.int a, .int c]])))
    (e2 : cf "_law_take" [.loc 0, .int 5] (x1 :: (t ++ [.lst [.int a, .int c]])) = some (.ok (.int d2), x2 :: (t ++ [.lst [.int a, .int c]]))) :
    turnS cf (.nm 3) b__law_run_1 x [some (.loc 0), some (.int letters), some (.int most), a3, some (.tup rs), some (.loc (t.length + 1)), a6, a7] (x0 :: (t ++ [.lst [.int a, .int c]])) =
    some (.nx [some (.loc 0), some (.int letters), some (.int most), some x, some (.tup (rs ++ [.tup [.int 0, .int 0]])), some (.loc (t.length + 1)), some (.int 0), some (.int d2)] (x2 :: (t ++ [.lst [.int (a - 1), .int c]]))) := by
  simp [b__law_run_1, e1, e2, h2, ha, hl]
theorem raw_take1 (hl : rs.length ≤ 99999) (h2 : d2 < 2) (ha : 0 < c)
    (e1 : cf "_law_take" [.loc 0, .int 2] (x0 :: (t ++ [.lst [.int a, .int c]])) = some (.ok (.int 1), x1 :: (t ++ [.lst [.int a, .int c]])))
    (e2 : cf "_law_take" [.loc 0, .int 5] (x1 :: (t ++ [.lst [.int a, .int c]])) = some (.ok (.int d2), x2 :: (t ++ [.lst [.int a, .int c]]))) :
    turnS cf (.nm 3) b__law_run_1 x [some (.loc 0), some (.int letters), some (.int most), a3, some (.tup rs), some (.loc (t.length + 1)), a6, a7] (x0 :: (t ++ [.lst [.int a, .int c]])) =
    some (.nx [some (.loc 0), some (.int letters), some (.int most), some x, some (.tup (rs ++ [.tup [.int 1, .int 0]])), some (.loc (t.length + 1)), some (.int 1), some (.int d2)] (x2 :: (t ++ [.lst [.int a, .int (c - 1)]]))) := by
  simp [b__law_run_1, e1, e2, h2, ha, hl]
theorem raw_put0 (hl : rs.length ≤ 99999) (h2 : ¬ (d2 < 2 ∧ 0 < a))
    (e1 : cf "_law_take" [.loc 0, .int 2] (x0 :: (t ++ [.lst [.int a, .int c]])) = some (.ok (.int 0), x1 :: (t ++ [.lst [.int a, .int c]])))
    (e2 : cf "_law_take" [.loc 0, .int 5] (x1 :: (t ++ [.lst [.int a, .int c]])) = some (.ok (.int d2), x2 :: (t ++ [.lst [.int a, .int c]])))
    (e3 : cf "_law_take" [.loc 0, .int letters] (x2 :: (t ++ [.lst [.int a, .int c]])) = some (.ok (.int d3), x3 :: (t ++ [.lst [.int a, .int c]]))) :
    turnS cf (.nm 3) b__law_run_1 x [some (.loc 0), some (.int letters), some (.int most), a3, some (.tup rs), some (.loc (t.length + 1)), a6, a7] (x0 :: (t ++ [.lst [.int a, .int c]])) =
    some (.nx [some (.loc 0), some (.int letters), some (.int most), some x, some (.tup (rs ++ [.tup [.int 0, .int (1 + d3)]])), some (.loc (t.length + 1)), some (.int 0), some (.int d2)] (x3 :: (t ++ [.lst [.int a, .int (c + 1)]]))) := by
  by_cases c1 : d2 < 2
  · have c2 : ¬ 0 < a := fun z => h2 ⟨c1, z⟩
    simp [b__law_run_1, e1, e2, e3, c1, c2, hl]
  · simp [b__law_run_1, e1, e2, e3, c1, hl]
theorem raw_put1 (hl : rs.length ≤ 99999) (h2 : ¬ (d2 < 2 ∧ 0 < c))
    (e1 : cf "_law_take" [.loc 0, .int 2] (x0 :: (t ++ [.lst [.int a, .int c]])) = some (.ok (.int 1), x1 :: (t ++ [.lst [.int a, .int c]])))
    (e2 : cf "_law_take" [.loc 0, .int 5] (x1 :: (t ++ [.lst [.int a, .int c]])) = some (.ok (.int d2), x2 :: (t ++ [.lst [.int a, .int c]])))
    (e3 : cf "_law_take" [.loc 0, .int letters] (x2 :: (t ++ [.lst [.int a, .int c]])) = some (.ok (.int d3), x3 :: (t ++ [.lst [.int a, .int c]]))) :
    turnS cf (.nm 3) b__law_run_1 x [some (.loc 0), some (.int letters), some (.int most), a3, some (.tup rs), some (.loc (t.length + 1)), a6, a7] (x0 :: (t ++ [.lst [.int a, .int c]])) =
    some (.nx [some (.loc 0), some (.int letters), some (.int most), some x, some (.tup (rs ++ [.tup [.int 1, .int (1 + d3)]])), some (.loc (t.length + 1)), some (.int 1), some (.int d2)] (x3 :: (t ++ [.lst [.int (a + 1), .int c]]))) := by
  by_cases c1 : d2 < 2
  · have c2 : ¬ 0 < c := fun z => h2 ⟨c1, z⟩
    simp [b__law_run_1, e1, e2, e3, c1, c2, hl]
  · simp [b__law_run_1, e1, e2, e3, c1, hl]
end
theorem enc_put (r : List Ev) (b : Bool) (m : Nat) : D.tup (r.map encE ++ [.tup [.int (sd b), .int (1 + (m : Int))]]) = enc (r ++ [(b, 1 + m)]) := by simp [enc, encE]
theorem run_body {cf : CF} {letters most : Int} {t : Store} {r : List Ev} {x0 x1 x2 x3 : O} {d2 : Int} {m : Nat} {b : Bool} {a3 a6 a7 : Option D} {x : D} (hl : r.length ≤ 1000)
    (e1 : cf "_law_take" [.loc 0, .int 2] (x0 :: (t ++ [roadO (tr r)])) = some (.ok (.int (sd b)), x1 :: (t ++ [roadO (tr r)])))
    (e2 : cf "_law_take" [.loc 0, .int 5] (x1 :: (t ++ [roadO (tr r)])) = some (.ok (.int d2), x2 :: (t ++ [roadO (tr r)])))
    (e3 : cf "_law_take" [.loc 0, .int letters] (x2 :: (t ++ [roadO (tr r)])) = some (.ok (.int (m : Int)), x3 :: (t ++ [roadO (tr r)]))) :
    turnS cf (.nm 3) b__law_run_1 x [some (.loc 0), some (.int letters), some (.int most), a3, some (enc r), some (.loc (t.length + 1)), a6, a7] (x0 :: (t ++ [roadO (tr r)])) =
      if d2 < 2 ∧ (tr r).rd b ≠ [] then some (.nx [some (.loc 0), some (.int letters), some (.int most), some x, some (enc (r ++ [(b, 0)])), some (.loc (t.length + 1)), some (.int (sd b)), some (.int d2)] (x2 :: (t ++ [roadO (tr (r ++ [(b, 0)]))])))
      else some (.nx [some (.loc 0), some (.int letters), some (.int most), some x, some (enc (r ++ [(b, 1 + m)])), some (.loc (t.length + 1)), some (.int (sd b)), some (.int d2)] (x3 :: (t ++ [roadO (tr (r ++ [(b, 1 + m)]))]))) := by
  have hl3 : (r.map encE).length ≤ 99999 := by simp; omega
  rw [tr_snoc, tr_snoc]
  have rp := road_put (tr r) b (1 + m) (by omega)
  by_cases c : d2 < 2 ∧ (tr r).rd b ≠ []
  · rw [if_pos c, road_take _ _ c.2]
    have hp := List.length_pos_iff.mpr c.2
    rw [← enc_snoc]
    cases b
    · exact raw_take0 hl3 c.1 (by simp [S.rd] at hp; omega) e1 e2
    · exact raw_take1 hl3 c.1 (by simp [S.rd] at hp; omega) e1 e2
  · rw [if_neg c, rp, ← enc_put]
    have hz : ¬ (d2 < 2 ∧ 0 < ((tr r).rd b).length) := fun z => c ⟨z.1, List.length_pos_iff.mp z.2⟩
    cases b
    · exact raw_put0 hl3 (by simp only [S.rd] at hz; simp at hz ⊢; omega) e1 e2 e3
    · exact raw_put1 hl3 (by simp only [S.rd] at hz; simp at hz ⊢; omega) e1 e2 e3
theorem run_turnG {k : Nat} {letters most : Int} (h0 : 0 < letters) (h1 : letters < 1000) {t : Store} {u1 : Int} (n : Nat) (hn : n ≤ 1000) (x : D) (env : Cl.Env) (st : Store) (h : InvG letters most t u1 n env st) :
    ∃ env' st', turnS (calls TT (k + 1)) (.nm 3) b__law_run_1 x env st = some (.nx env' st') ∧ InvG letters most t u1 (n + 1) env' st' := by
  obtain ⟨r, v0, v2, a3, a6, a7, rfl, rfl, ok, hl, g0, g1, g2⟩ := h
  obtain ⟨d1, w0, w2, e1, p1, p2, p3, p4, p5⟩ := take_ok (k := k) (t := t ++ [roadO (tr r)]) v0 u1 v2 2 g0 g1 (by omega) (by decide) (by decide)
  obtain ⟨d2, x0, x2, e2, q1, q2, q3, q4, q5⟩ := take_ok (k := k) (t := t ++ [roadO (tr r)]) w0 u1 w2 5 p3 p4 (by omega) (by decide) (by decide)
  obtain ⟨d3, y0, y2, e3, s1, s2, s3, s4, s5⟩ := take_ok (k := k) (t := t ++ [roadO (tr r)]) x0 u1 x2 letters q3 q4 (by omega) h0 (by omega)
  obtain ⟨b, rfl⟩ : ∃ b, d1 = sd b := by
    rcases (show d1 = 0 ∨ d1 = 1 by omega) with z | z
    · exact ⟨false, z⟩
    · exact ⟨true, z⟩
  obtain ⟨m, rfl⟩ : ∃ m : Nat, d3 = (m : Int) := ⟨d3.toNat, by omega⟩
  have z := run_body (most := most) (a3 := a3) (a6 := a6) (a7 := a7) (x := x) (show r.length ≤ 1000 by omega) e1 e2 e3
  rw [z]
  by_cases c : d2 < 2 ∧ (tr r).rd b ≠ []
  · rw [if_pos c]
    exact ⟨_, _, rfl, r ++ [(b, 0)], x0, x2, _, _, _, rfl, rfl, ok_snoc ok (.inr c.2), by simp; omega, q3, q4, by omega⟩
  · rw [if_neg c]
    exact ⟨_, _, rfl, r ++ [(b, 1 + m)], y0, y2, _, _, _, rfl, rfl, ok_snoc ok (.inl (by simp; omega)), by simp; omega, s3, s4, by omega⟩
theorem evI_oneS {cf : CF} {env : Cl.Env} {st st1 : Store} {as : CA} (b : Nat) (h : evA cf as env st = some (.ok [.int (b : Nat)], st1)) (hb : b ≤ 100000) : evI cf (.rng as) env st = some (.ok (.fix (lD (List.range b))), st1) := by
  rw [evI, Cl.bnd, h]
  dsimp only
  have e := rngD_nat 0 b
  rw [okR_nat b hb, List.range_eq_range']
  rw [show ((0 : Nat) : Int) = 0 from rfl] at e
  rw [e]
  rfl
theorem law_run_body {cf : CF} {s1 : CS} {st st' : Store} {u l m r : D} {a3 a5 a6 a7 : Option D} (h : evS cf s1 [some u, some l, some m, none, some (.tup []), some (.loc st.length), none, none] (st ++ [.lst [.int 0, .int 0]]) = some (.nx [some u, some l, some m, a3, some r, a5, a6, a7] st')) :
    (Df.mk "_law_run" ["urn", "letters", "most"] ["urn", "letters", "most", "lap", "run", "road", "side", "kind"] (.cons (.par 4 5 (.tup .nil) (.adopt (.lst (.cons (.int 0) (.cons (.int 0) .nil))))) (.cons s1 (.cons (.ret (.var 4)) .nil))) true).run cf [u, l, m] st = Df.fin true st st' r := by
  simp
  rw [h]
  simp
theorem law_run_ok {k : Nat} {letters : Int} {most : Nat} (h0 : 0 < letters) (h1 : letters < 1000) (hm : most ≤ 900) {t : Store} {u0 u1 u2 : Int} (g0 : 0 ≤ u0) (g1 : 0 ≤ u2) (g2 : u2 < 500000) :
    ∃ (r : List Ev) (v0 v2 : Int), calls TT (k + 2) "_law_run" [.loc 0, .int letters, .int (most : Nat)] (urnO u0 u1 u2 :: t) = some (.ok (enc r), urnO v0 u1 v2 :: t) ∧ Ok r {} ∧ r.length ≤ most ∧ 0 ≤ v0 ∧ 0 ≤ v2 ∧ v2 ≤ 600000 := by
  obtain ⟨d, w0, w2, e1, p1, p2, p3, p4, p5⟩ := take_ok (k := k) (t := t ++ [roadO {}]) u0 u1 u2 ((most : Int) + 1) g0 g1 (by omega) (by omega) (by omega)
  obtain ⟨n, rfl⟩ : ∃ n : Nat, d = (n : Int) := ⟨d.toNat, by omega⟩
  rw [at__law_run]
  have hi : evI (calls TT (k + 1)) (.rng (.cons (.cal "_law_take" (.cons (.var 0) (.cons (.bin .Add (.var 2) (.int 1)) .nil))) .nil)) [some (.loc 0), some (.int letters), some (.int (most : Nat)), none, some (.tup []), some (.loc (t.length + 1)), none, none] (urnO u0 u1 u2 :: (t ++ [roadO {}])) = some (.ok (.fix (lD (List.range n))), urnO w0 u1 w2 :: (t ++ [roadO {}])) :=
    evI_oneS n (by simp [e1]) (by omega)
  obtain ⟨env', st', e, i⟩ := frs_ok (cf := calls TT (k + 1)) (s := l__law_run_1) (l := List.range n) (f := nD) (src := .fix (lD (List.range n))) (fun l m => m + l.length ≤ 1000) (InvG letters most t u1) (fun n _ => n + 1) 0 rfl hi rfl (fun _ _ _ _ => rfl) (by simp; omega)
    ⟨[], w0, w2, none, none, none, rfl, rfl, trivial, by simp, p3, p4, by simp; omega⟩ (fun m x l env st p i => by
      rw [List.length_cons] at p
      obtain ⟨env', st2, e1, i1⟩ := run_turnG (k := k) h0 h1 m (by omega) (nD x) env st i
      exact ⟨env', st2, .inl e1, i1, by omega⟩)
  have hf : ∀ (l : List Nat) (m : Nat), l.foldl (fun n _ => n + 1) m = m + l.length := fun l => by
    induction l with
    | nil => intro m; rfl
    | cons a l ih => intro m; rw [List.foldl_cons, ih, List.length_cons]; omega
  rw [hf] at i
  obtain ⟨r, v0, v2, a3, a6, a7, rfl, rfl, ok, hl, q0, q1, q2⟩ := i
  refine ⟨r, v0, v2, ?_, ok, by simp at hl; omega, q0, q1, by simp at q2; omega⟩
  rw [show d__law_run = (Df.mk "_law_run" ["urn", "letters", "most"] ["urn", "letters", "most", "lap", "run", "road", "side", "kind"] (.cons (.par 4 5 (.tup .nil) (.adopt (.lst (.cons (.int 0) (.cons (.int 0) .nil))))) (.cons l__law_run_1 (.cons (.ret (.var 4)) .nil))) true) from rfl]
  rw [law_run_body (by simpa [roadO] using e)]
  exact fin_head (noL_enc r) (urn_below _ _ _ _)
end K02

namespace K02
open PySem Cl
open L2 (atI ixN)
/-! ### _law_same -/
mutual
def purD : D → Bool
  | .tup xs => decide (xs.length ≤ 100000) && purs xs
  | .lst xs => decide (xs.length ≤ 100000) && purs xs
  | .rol _ => false
  | .loc _ => false
  | _ => true
def purs : List D → Bool
  | [] => true
  | x :: xs => purD x && purs xs
end
theorem purs_iff : ∀ {ds : List D}, purs ds = true ↔ ∀ d ∈ ds, purD d = true
  | [] => by simp [purs]
  | d :: ds => by simp [purs, purs_iff (ds := ds)]
theorem purs_map {α : Type} {f : α → D} (h : ∀ a, purD (f a) = true) (l : List α) : purs (l.map f) = true := by
  rw [purs_iff]
  intro d hd
  obtain ⟨a, _, rfl⟩ := List.mem_map.mp hd
  exact h a
theorem eqD_bl {st : Store} (a b : Bool) : eqD st (.bl a) (.bl b) = some (decide (a = b)) := by
  rw [eqD_plain rfl rfl]
  cases a <;> cases b <;> rfl
theorem zip_self : ∀ xs : List D, zipD xs xs = xs.map fun x => .tup [x, x]
  | [] => rfl
  | x :: xs => by simp [zipD, zip_self xs]
theorem x_same_ok {cf : CF} {st : Store} (a b : D) (xs : List D) (h : (a = .tup xs ∧ b = .tup xs) ∨ (a = .lst xs ∧ b = .lst xs)) (hl : xs.length ≤ 100000) (hc : ∀ x ∈ xs, cf "_law_same" [x, x] st = some (.ok (.bl true), st)) (a2 a3 : Option D) :
    (ev cf x__law_same_1 [some a, some b, a2, a3]).x st = some (.ok (.f (xs.map fun _ => D.bl true)), st) :=
  comp_all (x := x__law_same_1) (l := xs) (f := fun x => .tup [x, x]) (src := .fix (zipD xs xs)) (gg := fun _ => D.bl true) rfl (by rcases h with ⟨rfl, rfl⟩ | ⟨rfl, rfl⟩ <;> simp) (zip_self xs) rfl hl (fun x hx => by simp [hc x hx])
theorem same_ok {st : Store} : ∀ (n : Nat) (d : D) (k : Nat), purD d = true → plainD n d = true → n ≤ 60 → calls TT (k + n + 1) "_law_same" [d, d] st = some (.ok (.bl true), st)
  | n, .non, k, _, _, _ => by
    rw [at__law_same]
    have e := eqD_refl (st := st) (a := .non) rfl
    simp [d__law_same, c__law_same, e, eqD_bl]
    exact fin_same (d := .bl true) rfl
  | n, .bl b, k, _, _, _ => by
    rw [at__law_same]
    simp [d__law_same, c__law_same, eqD_bl]
    exact fin_same (d := .bl true) rfl
  | n, .int i, k, _, _, _ => by
    rw [at__law_same]
    simp [d__law_same, c__law_same, eqD_bl]
    exact fin_same (d := .bl true) rfl
  | n, .str s, k, _, h, _ => by
    rw [at__law_same]
    have e := eqD_refl (st := st) (a := .str s) (by cases n <;> exact h)
    simp [d__law_same, c__law_same, e, eqD_bl]
    exact fin_same (d := .bl true) rfl
  | n + 1, .tup xs, k, hp, h, hn => by
    have hp := Bool.and_eq_true_iff.mp (show (decide (xs.length ≤ 100000) && purs xs) = true from hp)
    have hl : xs.length ≤ 100000 := by simpa using hp.1
    have hx := fun x hx => same_ok (st := st) n x k (purs_iff.mp hp.2 x hx) (plainDs_iff.mp (show plainDs n xs = true from h) x hx) (by omega)
    have x1 := fun a2 a3 => x_same_ok (cf := calls TT (k + n + 1)) (st := st) (.tup xs) (.tup xs) xs (.inl ⟨rfl, rfl⟩) hl hx a2 a3
    have b1 := bls_map (fun _ : D => true) xs
    rw [show k + (n + 1) + 1 = (k + n + 1) + 1 by omega, at__law_same]
    generalize (xs.map fun _ => D.bl true) = ys at x1 b1
    have al : (xs.map fun _ => true).all id = true := by simp
    generalize (xs.map fun _ => true) = bs at b1 al
    simp [d__law_same, c__law_same, eqD_bl, x1, b1, al]
    exact fin_same (d := .bl true) rfl
  | n + 1, .lst xs, k, hp, h, hn => by
    have hp := Bool.and_eq_true_iff.mp (show (decide (xs.length ≤ 100000) && purs xs) = true from hp)
    have hl : xs.length ≤ 100000 := by simpa using hp.1
    have hx := fun x hx => same_ok (st := st) n x k (purs_iff.mp hp.2 x hx) (plainDs_iff.mp (show plainDs n xs = true from h) x hx) (by omega)
    have x1 := fun a2 a3 => x_same_ok (cf := calls TT (k + n + 1)) (st := st) (.lst xs) (.lst xs) xs (.inr ⟨rfl, rfl⟩) hl hx a2 a3
    have b1 := bls_map (fun _ : D => true) xs
    rw [show k + (n + 1) + 1 = (k + n + 1) + 1 by omega, at__law_same]
    generalize (xs.map fun _ => D.bl true) = ys at x1 b1
    have al : (xs.map fun _ => true).all id = true := by simp
    generalize (xs.map fun _ => true) = bs at b1 al
    simp [d__law_same, c__law_same, eqD_bl, x1, b1, al]
    exact fin_same (d := .bl true) rfl
  | 0, .tup _, _, _, h, _ => by simp [plainD] at h
  | 0, .lst _, _, _, h, _ => by simp [plainD] at h
  | _, .rol _, _, h, _, _ => by cases h
  | _, .loc _, _, h, _, _ => by cases h
end K02

namespace K02
open PySem Cl
open L2 (atI ixN)
/-! ### all that the law calls -/
theorem puts_le {r : List Ev} : (tr r).puts.length ≤ r.length := by
  have h3 : (tr r).puts = r.filter fun e => decide (0 < e.2) := by rw [tr, puts_all]; rfl
  rw [h3]
  exact List.length_filter_le _ _
structure F (cf : CF) : Prop where
  same : ∀ {st} d, purD d = true → plainD 20 d = true → cf "_law_same" [d, d] st = some (.ok (.bl true), st)
  is_run : ∀ {st} r, Fit r {} → cf "is_run" [enc r] st = some (.ok (.bl true), st)
  snoc : ∀ {st} r (hr : Fit r {}) e, cf "is_run" [enc (r ++ [e])] st = some (.ok (.bl (decide (0 < e.2 ∨ (tr r).rd e.1 ≠ []))), st)
  roads : ∀ {st} r, Fit r {} → cf "roads" [enc r] st = some (.ok (.tup [.tup (lD ((tr r).lets false)), .tup (lD ((tr r).lets true))]), st)
  rest : ∀ {st} r, Fit r {} → cf "is_at_rest" [enc r] st = some (.ok (.bl (decide ((tr r).lets false = [] ∧ (tr r).lets true = []))), st)
  puts : ∀ {st} r, Fit r {} → cf "puts_of" [enc r] st = some (.ok (enc (tr r).puts), st)
  take : ∀ {st} r (hr : Fit r {}) b, cf "can_take" [enc r, .int (sd b)] st = some (.ok (.bl (decide ((tr r).lets b ≠ []))), st)
  order : ∀ {st} r (hr : Fit r {}) b, cf "order_of" [enc r, .int (sd b)] st = some (.ok (.tup (lD ((tr r).kn b))), st)
  known : ∀ {st} r (hr : Fit r {}) b, cf "known" [enc r, .int (sd b)] st = some (.ok (.tup (lD (srtN ((tr r).kn b)))), st)
  seen : ∀ {st} r (hr : Fit r {}) n x, (tr r).saw[n]? = some x → cf "seen" [enc r, .int (n : Nat)] st = some (.ok (.tup (lD x)), st)
  heard : ∀ {st} r (hr : Fit r {}) (n : Int), ¬ (0 ≤ n ∧ n < (tr r).saw.length) → cf "_law_heard" [enc r, .int n] st = some (.ok (.tup [.str "no place", .int n]), st)
  free : ∀ {st} r (hr : Fit r {}), r.length ≤ 100 → cf "free_pairs" [enc r] st = some (.ok (.tup (fpD (tr r) (quads r))), st)
  count : ∀ {st} r (hr : Fit r {}), r.length ≤ 200 → cf "weaving_count" [enc r] st = some (.ok (.int (Wy (tr r) (quads r) 0 0 : Nat)), st)
  settled : ∀ {st} r (hr : Fit r {}), cf "settled" [enc r] st = some (.ok (enc (quiet r)), st)
  lsettled : ∀ {st} r (hr : Fit r {}), cf "_law_settled" [enc r] st = some (.ok (enc (quiet r)), st)
  told : ∀ {st} r (hr : Fit r {}), cf "_law_told" [enc r] st = some (.ok (tr r).told, st)
  wof : ∀ {st} r (hr : Fit r {}) row ns, Row (tr r) (quads r) row → row.length ≤ 1000 → srtN row = ns → srtN ns = ns → cf "is_weaving_of" [enc r, .tup (lD ns), .tup (lD row)] st = some (.ok (.bl true), st)
  wea : ∀ {st} r (hr : Fit r {}) row, Row (tr r) (quads r) row → row.length ≤ 1000 → srtN row = List.range (tr r).puts.length → cf "is_weaving" [enc r, .tup (lD row)] st = some (.ok (.bl true), st)
  reads : ∀ {st} r (hr : Fit r {}) row, Row (tr r) (quads r) row → row.length ≤ 1000 → cf "reads" [enc r, .tup (lD row)] st = some (.ok (.tup (lD (row.map (tr r).let))), st)
  lreads : ∀ {st} (s : S) row, (∀ n ∈ row, n < s.puts.length) → row.length ≤ 1000 → cf "_law_reads" [enc s.puts, .tup (lD row)] st = some (.ok (.tup (lD (row.map s.let))), st)
  exch : ∀ {st} r (hr : Fit r {}), cf "exchanged" [enc r] st = some (.ok (enc (r.map swE)), st)
  bent : ∀ {st} r (hr : Fit r {}), cf "is_run" [.tup (r.map encE ++ [.tup [.int 2, .int 1]])] st = some (.ok (.bl false), st) ∧ cf "is_run" [.tup (r.map encE ++ [.tup [.int 0, .int (-1)]])] st = some (.ok (.bl false), st) ∧
    cf "is_run" [.tup (r.map encE ++ [.tup [.int 0, .bl true]])] st = some (.ok (.bl false), st) ∧ cf "is_run" [.tup (r.map encE ++ [.lst [.int 0, .int 1]])] st = some (.ok (.bl false), st) ∧ cf "is_run" [.tup (r.map encE ++ [.tup [.int 0]])] st = some (.ok (.bl false), st)
  lst : ∀ {st} xs, cf "is_run" [.lst xs] st = some (.ok (.bl false), st)
theorem law_reads_tup {k : Nat} {st : Store} (s : S) (w : List Nat) (hw : ∀ n ∈ w, n < s.puts.length) (hl : w.length ≤ 100000) :
    calls TT (k + 1) "_law_reads" [enc s.puts, .tup (lD w)] st = some (.ok (.tup (lD (w.map s.let))), st) := by
  rw [at__law_reads]
  have := comp_all (cf := calls TT k) (x := x__law_reads_1) (l := w) (f := nD) (src := .fix (lD w)) (env := [some (.tup (s.puts.map encE)), some (.tup (lD w)), none]) (st := st) (gg := fun n => nD (s.let n)) rfl (evI_over rfl) rfl rfl hl (fun n hn => by
    simp [nD, puts_at (hw n hn), encE])
  have e : (List.map (fun n => nD (s.let n)) w) = lD (w.map s.let) := by simp [lD, List.map_map, Function.comp_def]
  simp [d__law_reads, c__law_reads, enc, this, e]
  exact fin_same (d := .tup (lD _)) (noL_lD _)
theorem f59 : F (calls TT 59) where
  same := fun d h1 h2 => same_ok 20 d 38 h1 h2 (by omega)
  is_run := fun r hr => is_run_ok (k := 56) r hr
  snoc := fun r hr e => is_run_snoc (k := 56) r hr e
  roads := fun r hr => roads_ok (k := 56) r hr
  rest := fun r hr => is_at_rest_ok (k := 55) r hr
  puts := fun r hr => puts_of_tr (k := 58) r hr
  take := fun r hr b => can_take_ok (k := 55) r hr b
  order := fun r hr b => order_of_ok (k := 58) r b hr
  known := fun r hr b => known_ok (k := 56) r hr b
  seen := fun r hr n x h => seen_ok (k := 56) r hr n x h
  heard := fun r hr n h => law_heard_no (k := 55) r hr n h
  free := fun r hr h => free_pairs_ok (k := 57) r hr (Nat.le_trans puts_le h)
  count := fun r hr h => weaving_count_ok (k := 56) r hr (Nat.le_trans puts_le h)
  settled := fun r hr => settled_ok (k := 55) r hr
  lsettled := fun r hr => law_settled_ok (k := 57) r hr
  told := fun r hr => law_told_ok (k := 57) r hr
  wof := fun r hr row ns h1 h2 h3 h4 => is_weaving_of_ok (k := 56) r hr row ns h1 (by omega) h3 h4
  wea := fun r hr row h1 h2 h3 => is_weaving_ok (k := 56) r hr row h1 (by omega) h3
  reads := fun r hr row h1 h2 => reads_ok (k := 56) r hr row h1 (by omega)
  lreads := fun s row h1 h2 => law_reads_tup (k := 58) s row h1 (by omega)
  exch := fun r hr => exchanged_ok (k := 58) r (by have := hr.len; omega)
  bent := fun r hr => ⟨is_run_bent (k := 56) r hr.len _ ev_bad_1 rfl, is_run_bent (k := 56) r hr.len _ ev_bad_2 rfl, is_run_bent (k := 56) r hr.len _ ev_bad_3 rfl, is_run_bent (k := 56) r hr.len _ ev_bad_4 rfl, is_run_bent (k := 56) r hr.len _ ev_bad_5 rfl⟩
  lst := fun xs => is_run_lst (k := 56) xs
/-! ### plain facts -/
theorem lets_nil (s : S) (b : Bool) : s.lets b = [] ↔ s.rd b = [] := by simp [S.lets]
/-- what told holds -/
def vLet (s : S) : D := .tup [.tup (lD (s.lets false)), .tup (lD (s.lets true))]
def vRest (s : S) : D := .bl (decide (s.lets false = [] ∧ s.lets true = []))
def vBef (s : S) : D := .lst (sawD s.saw)
def vOrd (s : S) : D := .lst [.tup (lD (s.kn false)), .tup (lD (s.kn true))]
def vKn (s : S) : D := .lst [.tup (lD (srtN (s.kn false))), .tup (lD (srtN (s.kn true)))]
def vCan (s : S) : D := .lst [.bl (decide (s.lets false ≠ [])), .bl (decide (s.lets true ≠ []))]
theorem told_eq (s : S) : s.told = .lst [vLet s, vRest s, enc s.puts, vBef s, vOrd s, vKn s, vCan s] := by
  have h0 : s.lets false = [] ↔ s.r0 = [] := lets_nil s false
  have h1 : s.lets true = [] ↔ s.r1 = [] := lets_nil s true
  simp [S.told, vLet, vRest, vBef, vOrd, vKn, vCan, h0, h1, S.kn]
theorem pure_lD (l : List Nat) (h : l.length ≤ 100000) : purD (.tup (lD l)) = true := by
  show (decide ((lD l).length ≤ 100000) && purs (lD l)) = true
  have : purs (lD l) = true := purs_map (fun _ => rfl) l
  simp [this, h]
theorem pure_enc (r : List Ev) (h : r.length ≤ 100000) : purD (enc r) = true := by
  show (decide ((r.map encE).length ≤ 100000) && purs (r.map encE)) = true
  have : purs (r.map encE) = true := purs_map (fun _ => rfl) r
  simp [this, h]
theorem plain_tl (n : Nat) (l : List Nat) : plainD (n + 1) (.tup (lD l)) = true := plain_lD n l
theorem plain_en (n : Nat) (r : List Ev) : plainD (n + 2) (enc r) = true := plainDs_map (n := n + 1) (fun e => rfl) r
theorem plain_saw (n : Nat) (l : List (List Nat)) : plainD (n + 2) (.lst (sawD l)) = true := plainDs_map (n := n + 1) (f := fun x => D.tup (lD x)) (fun x => plain_lD n x) l
/-- who has seen a put has seen all that it has -/
theorem saw_mem {s : S} {q : Q} (j : J s q) {n : Nat} (hn : n < s.puts.length) {x : List Nat} (h : s.saw[n]? = some x) (i : Nat) : i ∈ x ↔ i < n ∧ sees s q n i = true := by
  have := j.saw n hn
  rw [h] at this
  simp only [Option.some.injEq] at this
  subst this
  rw [List.mem_filter, List.mem_range]
theorem saw_trans {s : S} {q : Q} (j : J s q) (h : H s q) {n : Nat} (hn : n < s.puts.length) {x y : List Nat} (hx : s.saw[n]? = some x) {a : Nat} (ha : a ∈ x) (hy : s.saw[a]? = some y) {f : Nat} (hf : f ∈ y) : f ∈ x := by
  have h1 := (saw_mem j hn hx a).mp ha
  have h2 := (saw_mem j (by omega) hy f).mp hf
  exact (saw_mem j hn hx f).mpr ⟨by omega, sees_trans j h h2.1 h1.1 hn h2.2 h1.2⟩
theorem asc_prefix : ∀ {a b : List Nat}, Asc a → Asc b → (∀ x ∈ a, x ∈ b) → (∀ x ∈ b, ∀ y ∈ a, x < y → x ∈ a) → a = b.take a.length
  | [], b, _, _, _, _ => by simp
  | x :: a, [], _, _, h, _ => absurd (h x List.mem_cons_self) (by simp)
  | x :: a, y :: b, ha, hb, h1, h2 => by
    have ha' := List.pairwise_cons.mp ha
    have hb' := List.pairwise_cons.mp hb
    have e : x = y := by
      rcases List.mem_cons.mp (h1 x List.mem_cons_self) with z | z
      · exact z
      · have lt := hb'.1 x z
        rcases List.mem_cons.mp (h2 y List.mem_cons_self x List.mem_cons_self lt) with w | w
        · exact w.symm
        · have := ha'.1 y w; omega
    subst e
    rw [List.length_cons, List.take_succ_cons]
    congr 1
    refine asc_prefix ha'.2 hb'.2 (fun z hz => ?_) (fun z hz y hy l => ?_)
    · rcases List.mem_cons.mp (h1 z (List.mem_cons_of_mem _ hz)) with w | w
      · have := ha'.1 z hz; omega
      · exact w
    · rcases List.mem_cons.mp (h2 z (List.mem_cons_of_mem _ hz) y (List.mem_cons_of_mem _ hy) l) with w | w
      · have := hb'.1 z hz; omega
      · exact w
theorem saw_first {s : S} {q : Q} (j : J s q) {n : Nat} (hn : n < s.puts.length) {x : List Nat} (hx : s.saw[n]? = some x) (b : Bool) : x.filter (fun i => s.own i == b) = (s.idx b).take (x.filter fun i => s.own i == b).length := by
  have e := j.saw n hn
  rw [hx] at e
  simp only [Option.some.injEq] at e
  refine asc_prefix (asc_filter _ (by rw [e]; exact asc_filter _ (asc_range _))) (asc_filter _ (asc_range _)) (fun i hi => ?_) (fun i hi k hk l => ?_)
  · have h1 := List.mem_filter.mp hi
    have h2 := (saw_mem j hn hx i).mp h1.1
    exact List.mem_filter.mpr ⟨List.mem_range.mpr (by omega), h1.2⟩
  · have h1 := List.mem_filter.mp hi
    have h2 := List.mem_filter.mp hk
    have h3 := (saw_mem j hn hx k).mp h2.1
    have o1 : s.own i = b := by simpa using h1.2
    have o2 : s.own k = b := by simpa using h2.2
    refine List.mem_filter.mpr ⟨(saw_mem j hn hx i).mpr ⟨by omega, ?_⟩, h1.2⟩
    have h4 := h3.2
    unfold sees at h4 ⊢
    simp only [Bool.or_eq_true, beq_iff_eq, decide_eq_true_eq] at h4 ⊢
    rcases h4 with z | z
    · exact .inl (by rw [o1, ← o2]; exact z)
    · exact .inr (Nat.lt_trans (rk_mono j l (by omega) (by rw [o1, o2])) z)
theorem fp_nil {s : S} {q : Q} : fpD s q = [] ↔ ∀ i k, i < k → k < s.puts.length → sees s q k i = true := by
  unfold fpD
  rw [List.flatMap_eq_nil_iff]
  constructor
  · intro h i k hik hk
    have := h i (List.mem_range.mpr (by omega))
    unfold prD fr at this
    rw [List.map_eq_nil_iff, List.filter_eq_nil_iff] at this
    have := this k (List.mem_range'.mpr ⟨k - (i + 1), by omega, by omega⟩)
    simpa using this
  · intro h i hi
    unfold prD fr
    rw [List.map_eq_nil_iff, List.filter_eq_nil_iff]
    intro k hk
    obtain ⟨m, h1, h2⟩ := List.mem_range'.mp hk
    simp [h i k (by omega) (by omega)]
end K02

namespace K02
open PySem Cl
open L2 (atI ixN)
/-! ### the law -/
/-- the law's names -/
abbrev en (sc run : D) (a3 a4 a5 a6 a7 a8 a9 a10 : Option D) (s : S) (a18 a19 : Option D) : Cl.Env :=
  [some sc, some (.loc 0), some run, a3, a4, a5, a6, a7, a8, a9, a10, some (vLet s), some (vRest s), some (enc s.puts), some (vBef s), some (vOrd s), some (vKn s), some (vCan s), a18, a19, none, none, none]
section
variable {cf : CF} {st : Store} {sc : D} {r : List Ev} {a3 a4 a5 a6 a7 a8 a9 a10 a18 a19 : Option D}
/-- steps -/
theorem nx_step {s : CS} {rest : CSs} {env env1 : Cl.Env} {st1 : Store} {o : Option Out} (h : evS cf s env st = some (.nx env1 st1)) (h2 : evSs cf rest env1 st1 = o) : evSs cf (.cons s rest) env st = o := by
  show (match evS cf s env st with | some (.nx env1 st1) => evSs cf rest env1 st1 | o => o) = o
  rw [h]
  exact h2
theorem ite_no {t : CE} {a : CSs} {env : Cl.Env} (h : (ev cf t env).t st = some (.ok false, st)) : evS cf (.ite t a .nil) env st = some (.nx env st) := by
  show thnS (evT cf t env) env st (fun c st1 => if c then evSs cf a env st1 else evSs cf .nil env st1) = _
  unfold thnS evT
  rw [h]
  rfl
theorem or_no {a b : CE} {env : Cl.Env} (h1 : (ev cf a env).t st = some (.ok false, st)) (h2 : (ev cf b env).t st = some (.ok false, st)) : (ev cf (.or a b) env).t st = some (.ok false, st) := by
  show Cl.bnd (ev cf a env).t (fun c => if c then Cl.ret true else (ev cf b env).t) st = _
  unfold Cl.bnd
  rw [h1]
  exact h2
theorem ne_no {a b : CE} {env : Cl.Env} {x y : E} (h1 : (ev cf a env).x st = some (.ok x, st)) (h2 : (ev cf b env).x st = some (.ok y, st)) (h3 : eqD st x.val y.val = some true) : (ev cf (.cmp .NotEq a b) env).t st = some (.ok false, st) := by
  simp [h1, h2, h3, -E.val]
  rfl
theorem isnt_no {a : CE} {env : Cl.Env} (h1 : (ev cf a env).x st = some (.ok (.v (.bl true)), st)) : (ev cf (.isC a (.bl true) true) env).t st = some (.ok false, st) := by
  simp [h1]
theorem not_no {a : CE} {env : Cl.Env} (h1 : (ev cf a env).t st = some (.ok true, st)) : (ev cf (.not a) env).t st = some (.ok false, st) := by
  simp [h1]
/-- the first look -/
theorem look_raw {a0 a1 a14 a15 a16 : Option D} {run v1 v2 p c0 c1 : D} (h1 : cf "is_run" [run] st = some (.ok (.bl true), st)) (h2 : cf "roads" [run] st = some (.ok v1, st)) (h3 : cf "is_at_rest" [run] st = some (.ok v2, st)) (h4 : cf "puts_of" [run] st = some (.ok p, st))
    (h5 : cf "can_take" [run, .int 0] st = some (.ok c0, st)) (h6 : cf "can_take" [run, .int 1] st = some (.ok c1, st)) (h7 : cf "_law_same" [.lst [.bl true, v1, v2, p, .lst [c0, c1]], .lst [.bl true, v1, v2, p, .lst [c0, c1]]] st = some (.ok (.bl true), st)) :
    (ev cf (.not (.cal "_law_same" (.cons (.lst (.cons (.cal "is_run" (.cons (.var 2) .nil)) (.cons (.cal "roads" (.cons (.var 2) .nil)) (.cons (.cal "is_at_rest" (.cons (.var 2) .nil)) (.cons (.cal "puts_of" (.cons (.var 2) .nil)) (.cons (.lst (.cons (.cal "can_take" (.cons (.var 2) (.cons (.int 0) .nil))) (.cons (.cal "can_take" (.cons (.var 2) (.cons (.int 1) .nil))) .nil))) .nil)))))) (.cons (.lst (.cons (.bl true) (.cons (.var 11) (.cons (.var 12) (.cons (.var 13) (.cons (.var 17) .nil)))))) .nil)))) [a0, a1, some run, a3, a4, a5, a6, a7, a8, a9, a10, some v1, some v2, some p, a14, a15, a16, some (.lst [c0, c1]), a18, a19, none, none, none]).t st = some (.ok false, st) := by
  simp [h1, h2, h3, h4, h5, h6, h7]
theorem look_same (f : F cf) (hr : Fit r {}) : (ev cf (.not (.cal "_law_same" (.cons (.lst (.cons (.cal "is_run" (.cons (.var 2) .nil)) (.cons (.cal "roads" (.cons (.var 2) .nil)) (.cons (.cal "is_at_rest" (.cons (.var 2) .nil)) (.cons (.cal "puts_of" (.cons (.var 2) .nil)) (.cons (.lst (.cons (.cal "can_take" (.cons (.var 2) (.cons (.int 0) .nil))) (.cons (.cal "can_take" (.cons (.var 2) (.cons (.int 1) .nil))) .nil))) .nil)))))) (.cons (.lst (.cons (.bl true) (.cons (.var 11) (.cons (.var 12) (.cons (.var 13) (.cons (.var 17) .nil)))))) .nil)))) (en sc (enc r) a3 a4 a5 a6 a7 a8 a9 a10 (tr r) a18 a19)).t st = some (.ok false, st) := by
  have h := f.same (st := st) (.lst [.bl true, vLet (tr r), vRest (tr r), enc (tr r).puts, vCan (tr r)]) (by
    have l := tr_len hr
    have e1 := lets_len (tr r) false
    have e2 := lets_len (tr r) true
    have r1 := rd_len hr false
    have r2 := rd_len hr true
    simp [purD, purs, vLet, vRest, vCan, pure_enc (tr r).puts (by omega)]
    have p1 := pure_lD ((tr r).lets false) (by omega)
    have p2 := pure_lD ((tr r).lets true) (by omega)
    simp [purD] at p1 p2
    exact ⟨p1, p2⟩) (by
    have p := plain_en 17 (tr r).puts
    simp [plainD, plainDs, vLet, vRest, vCan, plain_lD, p])
  have t0 := f.take (st := st) r hr false
  have t1 := f.take (st := st) r hr true
  simp only [sd_f, sd_t] at t0 t1
  exact look_raw (f.is_run r hr) (f.roads r hr) (f.rest r hr) (f.puts r hr) t0 t1 h
theorem look_know (f : F cf) (hr : Fit r {}) : (ev cf (.or (.cmp .NotEq (.lst (.cons (.cal "order_of" (.cons (.var 2) (.cons (.int 0) .nil))) (.cons (.cal "order_of" (.cons (.var 2) (.cons (.int 1) .nil))) .nil))) (.var 15)) (.cmp .NotEq (.lst (.cons (.cal "known" (.cons (.var 2) (.cons (.int 0) .nil))) (.cons (.cal "known" (.cons (.var 2) (.cons (.int 1) .nil))) .nil))) (.var 16))) (en sc (enc r) a3 a4 a5 a6 a7 a8 a9 a10 (tr r) a18 a19)).t st = some (.ok false, st) := by
  have o0 := f.order (st := st) r hr false
  have o1 := f.order (st := st) r hr true
  have k0 := f.known (st := st) r hr false
  have k1 := f.known (st := st) r hr true
  simp only [sd_f, sd_t] at o0 o1 k0 k1
  refine or_no (ne_no (x := .f [.tup (lD ((tr r).kn false)), .tup (lD ((tr r).kn true))]) (y := .v (vOrd (tr r))) (by simp [o0, o1]) (by simp) (eqD_refl (a := vOrd (tr r)) ?_)) (ne_no (x := .f [.tup (lD (srtN ((tr r).kn false))), .tup (lD (srtN ((tr r).kn true)))]) (y := .v (vKn (tr r))) (by simp [k0, k1]) (by simp) (eqD_refl (a := vKn (tr r)) ?_))
  · simp [plainD, plainDs, vOrd, plain_lD]
  · simp [plainD, plainDs, vKn, plain_lD]
theorem saw_at {s : S} {q : Q} (j : J s q) {n : Nat} (hn : n < s.puts.length) : ∃ x, s.saw[n]? = some x ∧ atI (sawD s.saw) (n : Int) = some (.tup (lD x)) ∧ x.length ≤ n ∧ ∀ i ∈ x, i < n := by
  have h := j.saw n hn
  refine ⟨_, h, ?_, ?_, ?_⟩
  · rw [atI_nat, sawD, List.getElem?_map, h]; rfl
  · have := List.length_filter_le (sees s q n) (List.range n)
    rwa [List.length_range] at this
  · intro i hi
    exact List.mem_range.mp (List.mem_filter.mp hi).1
theorem in_lD {st : Store} (n : Nat) (l : List Nat) : inD st (.int (n : Nat)) (.tup (lD l)) = some (decide (n ∈ l)) := by
  rw [inD_tup rfl (plain_lD 63 l) rfl (solid_lD l)]
  congr 1
  induction l with
  | nil => rfl
  | cons a l ih =>
    have e := beq_nD a n
    simp only [lD, List.map_cons, List.any_cons] at ih ⊢
    rw [show (D.int (n : Nat)) = nD n from rfl] at ih ⊢
    rw [e, ih]
    by_cases h : a = n
    · subst h; simp
    · have h2 : ¬ n = a := fun z => h z.symm
      simp [h, h2]
/-- nothing that a put has seen has seen more -/
theorem x7_ok (hj : J (tr r) (quads r)) (hH : H (tr r) (quads r)) {n a : Nat} (hn : n < (tr r).puts.length) {x : List Nat} (hx : (tr r).saw[n]? = some x) (ha : a ∈ x) (hl : (tr r).puts.length ≤ 100) (st : Store) :
    (ev cf x_law_7 (((en sc (enc r) (some (nD n)) a4 a5 a6 a7 a8 a9 a10 (tr r) a18 a19).set 20 (some (nD a))))).x st = some (.ok (.f []), st) := by
  have hax := (saw_mem hj hn hx a).mp ha
  obtain ⟨y, hy, ay, ly, _⟩ := saw_at hj (show a < (tr r).puts.length by omega)
  have an : atI (sawD (tr r).saw) (n : Int) = some (.tup (lD x)) := by rw [atI_nat, sawD, List.getElem?_map, hx]; rfl
  rw [comp_ok (x := x_law_7) (l := y) (f := nD) (src := .fix (lD y)) (gg := fun _ => none) rfl (by simp [vBef, nD, ay, overD]) rfl rfl (by omega) (fun f hf => by
    have := saw_trans hj hH hn hx ha hy hf
    simp [nD, vBef, an, in_lD, this])]
  simp
theorem x8_ok (hj : J (tr r) (quads r)) (hH : H (tr r) (quads r)) {n : Nat} (hn : n < (tr r).puts.length) (hl : (tr r).puts.length ≤ 100) (st : Store) :
    (ev cf x_law_8 (en sc (enc r) (some (nD n)) a4 a5 a6 a7 a8 a9 a10 (tr r) a18 a19)).x st = some (.ok (.f []), st) := by
  obtain ⟨x, hx, ax, lx, _⟩ := saw_at hj hn
  have e0 := eqD_lst (st := st) [] []
  simp only [lD, List.map_nil] at e0
  rw [comp_ok (x := x_law_8) (l := x) (f := nD) (src := .fix (lD x)) (gg := fun _ => none) rfl (by simp [vBef, nD, ax, overD]) rfl rfl (by omega) (fun a ha => by
    have x7 := x7_ok (cf := cf) (sc := sc) (a4 := a4) (a5 := a5) (a6 := a6) (a7 := a7) (a8 := a8) (a9 := a9) (a10 := a10) (a18 := a18) (a19 := a19) hj hH hn hx ha hl st
    simp [nD] at x7
    simp [nD, x7, e0])]
  simp
end
end K02

namespace K02
open PySem Cl
open L2 (atI ixN)
section
variable {cf : CF} {sc : D} {r : List Ev} {a3 a4 a5 a6 a7 a8 a9 a10 a18 a19 : Option D}
theorem filterMap_if {α : Type} (p : α → Bool) (g : α → D) : ∀ l : List α, (l.filterMap fun n => if p n = true then some (g n) else none) = (l.filter p).map g
  | [] => rfl
  | a :: l => by
    have ih := filterMap_if p g l
    cases c : p a <;> simp [c, ih]
theorem x6_ok {s : S} (hl : s.puts.length ≤ 1000) (st : Store) (b : Bool) (run : D) :
    (ev cf x_law_6 (en sc run a3 a4 a5 a6 (some (.int (sd b))) a8 a9 a10 s a18 a19)).x st = some (.ok (.f (lD (s.idx b))), st) := by
  rw [comp_ok (x := x_law_6) (l := List.range s.puts.length) (f := nD) (src := .fix (lD (List.range s.puts.length))) (gg := fun n => if (s.own n == b) = true then some (nD n) else none) rfl (evI_one s.puts.length (by simp [enc]) (by omega)) rfl rfl (by simp; omega) (fun n hn => by
    have h := puts_at (List.mem_range.mp hn)
    by_cases c : s.own n = b
    · subst c; simp [nD, enc, h, encE]
    · have : ¬ sd (s.own n) = sd b := by rw [sd_inj]; exact c
      simp [nD, enc, h, encE, c, this])]
  rw [filterMap_if]
  rfl
theorem x5_ok {s : S} {q : Q} (j : J s q) {n : Nat} (hn : n < s.puts.length) {x : List Nat} (hx : s.saw[n]? = some x) (hl : s.puts.length ≤ 1000) (st : Store) (b : Bool) (run : D) :
    (ev cf x_law_5 (en sc run (some (nD n)) a4 a5 a6 (some (.int (sd b))) a8 a9 a10 s a18 a19)).x st = some (.ok (.f (lD (x.filter fun i => s.own i == b))), st) := by
  obtain ⟨y, hy, ay, ly, my⟩ := saw_at j hn
  rw [hx] at hy
  simp only [Option.some.injEq] at hy
  subst hy
  rw [comp_ok (x := x_law_5) (l := x) (f := nD) (src := .fix (lD x)) (gg := fun n => if (s.own n == b) = true then some (nD n) else none) rfl (by simp [vBef, nD, ay, overD]) rfl rfl (by omega) (fun i hi => by
    have h := puts_at (show i < s.puts.length by have := my i hi; omega)
    by_cases c : s.own i = b
    · subst c; simp [nD, enc, h, encE]
    · have : ¬ sd (s.own i) = sd b := by rw [sd_inj]; exact c
      simp [nD, enc, h, encE, c, this])]
  rw [filterMap_if]
  rfl
theorem cut_to (l : List Nat) (n : Nat) : cutD (lD l) none (some (n : Int)) = lD (l.take n) := by
  unfold cutD
  have h1 : HT.sIx (lD l).length 0 none = 0 := rfl
  have h2 : HT.sIx (lD l).length (lD l).length (some (n : Int)) = min n (lD l).length := HT.sIx_nat _ _ _
  rw [h1, h2, lD_len, List.drop_zero, Nat.sub_zero]
  by_cases h : n ≤ l.length
  · rw [Nat.min_eq_left h]; simp [lD, List.map_take]
  · rw [Nat.min_eq_right (by omega), List.take_of_length_le (by simp), List.take_of_length_le (by omega)]
theorem nx_two {s1 s2 : CS} {env e1 e2 : Cl.Env} {st : Store} (h1 : evS cf s1 env st = some (.nx e1 st)) (h2 : evS cf s2 e1 st = some (.nx e2 st)) : evSs cf (.cons s1 (.cons s2 .nil)) env st = some (.nx e2 st) := nx_step h1 (nx_step h2 rfl)
theorem asg_nm {e : CE} {i : Nat} {env : Cl.Env} {st st1 : Store} {x : E} (h : (ev cf e env).x st = some (.ok x, st1)) (hi : i < env.length) : evS cf (.asg (.nm i) e) env st = some (.nx (env.set i (some x.val)) st1) := by
  show thnS (evX cf e env) env st (fun x st1 => match bdT cf (.nm i) x.val env st1 with
    | some (.ok env1, st2) => some (.nx env1 st2)
    | _ => none) = _
  unfold thnS evX
  rw [h]
  simp [hi, -E.val]
/-- of each side the first ones -/
theorem five_turn {s : S} {q : Q} (j : J s q) {n : Nat} (hn : n < s.puts.length) (hl : s.puts.length ≤ 100) (st : Store) (b : Bool) (run : D) :
    turnS cf (.nm 7) b_law_5 (.int (sd b)) (en sc run (some (nD n)) a4 a5 a6 a7 a8 a9 a10 s a18 a19) st =
    some (.nx (en sc run (some (nD n)) a4 a5 a6 (some (.int (sd b))) a8 a9 a10 s (some (.lst (lD (s.idx b)))) (some (.lst (lD ((s.saw.getD n []).filter fun i => s.own i == b))))) st) := by
  obtain ⟨x, hx, ax, lx, mx⟩ := saw_at j hn
  have hg : s.saw.getD n [] = x := by rw [List.getD_eq_getElem?_getD, hx]; rfl
  rw [hg]
  show evSs cf b_law_5 (en sc run (some (nD n)) a4 a5 a6 (some (.int (sd b))) a8 a9 a10 s a18 a19) st = _
  refine nx_step (asg_nm (x6_ok (by omega) st b run) (by simp)) ?_
  refine nx_step (asg_nm (x := .f (lD (x.filter fun i => s.own i == b))) (st1 := st) (x5_ok (a18 := some (.lst (lD (s.idx b)))) j hn hx (by omega) st b run) (by simp)) ?_
  have fst := saw_first j hn hx b
  generalize (x.filter fun i => s.own i == b) = y at fst ⊢
  refine nx_step (ite_no (ne_no (x := .v (.lst (lD y))) (y := .f (lD ((s.idx b).take y.length))) (by simp) (by simp [slcD, cut_to]) ?_)) rfl
  show eqD st (.lst (lD y)) (.lst (lD ((s.idx b).take y.length))) = some true
  rw [← fst, eqD_lst]
  simp
theorem five_ok {s : S} {q : Q} (j : J s q) {n : Nat} (hn : n < s.puts.length) (hl : s.puts.length ≤ 100) (st : Store) (run : D) :
    ∃ b7 b18 b19, evS cf l_law_5 (en sc run (some (nD n)) a4 a5 a6 a7 a8 a9 a10 s a18 a19) st = some (.nx (en sc run (some (nD n)) a4 a5 a6 b7 a8 a9 a10 s b18 b19) st) := by
  obtain ⟨env', st', e, a7, a18, a19, rfl, rfl⟩ := frs_ok (cf := cf) (s := l_law_5) (l := [false, true]) (f := fun b => .int (sd b)) (src := .fix [.int 0, .int 1]) (env := en sc run (some (nD n)) a4 a5 a6 a7 a8 a9 a10 s a18 a19) (st := st)
    (fun _ _ => True) (fun (_ : Unit) env st' => ∃ a7 a18 a19, env = en sc run (some (nD n)) a4 a5 a6 a7 a8 a9 a10 s a18 a19 ∧ st' = st) (fun _ _ => ()) () rfl (by simp) rfl (fun _ _ _ _ => rfl) trivial ⟨_, _, _, rfl, rfl⟩ (fun _ b l env st' _ i => by
      obtain ⟨a7, a18, a19, rfl, rfl⟩ := i
      exact ⟨_, _, .inl (five_turn j hn hl st' b run), ⟨_, _, _, rfl, rfl⟩, trivial⟩)
  exact ⟨_, _, _, e⟩
theorem four_turn (f : F cf) (hr : Fit r {}) (hl : (tr r).puts.length ≤ 100) {n : Nat} (hn : n < (tr r).puts.length) (st : Store) :
    ∃ b7 b18 b19, turnS cf (.nm 3) b_law_4 (nD n) (en sc (enc r) a3 a4 a5 a6 a7 a8 a9 a10 (tr r) a18 a19) st = some (.nx (en sc (enc r) (some (nD n)) a4 a5 a6 b7 a8 a9 a10 (tr r) b18 b19) st) := by
  have j := tr_J hr
  obtain ⟨x, hx, ax, lx, mx⟩ := saw_at j hn
  obtain ⟨b7, b18, b19, e⟩ := five_ok (cf := cf) (sc := sc) (a4 := a4) (a5 := a5) (a6 := a6) (a7 := a7) (a8 := a8) (a9 := a9) (a10 := a10) (a18 := a18) (a19 := a19) j hn hl st (enc r)
  refine ⟨b7, b18, b19, ?_⟩
  show evSs cf b_law_4 (en sc (enc r) (some (nD n)) a4 a5 a6 a7 a8 a9 a10 (tr r) a18 a19) st = _
  have se := f.seen (st := st) r hr n x hx
  refine nx_two (ite_no (or_no (ne_no (x := .v (.tup (lD x))) (y := .v (.tup (lD x))) (by simp [nD, se]) (by simp [nD, vBef, ax]) (eqD_refl (plain_lD 63 x))) (ne_no (x8_ok j (tr_H hr) hn hl st) (y := .f []) (by simp) (eqD_refl (a := .lst []) rfl)))) e
theorem four_ok (f : F cf) (hr : Fit r {}) (hl : (tr r).puts.length ≤ 100) (st : Store) :
    ∃ b3 b7 b18 b19, evS cf l_law_4 (en sc (enc r) a3 a4 a5 a6 a7 a8 a9 a10 (tr r) a18 a19) st = some (.nx (en sc (enc r) b3 a4 a5 a6 b7 a8 a9 a10 (tr r) b18 b19) st) := by
  obtain ⟨env', st', e, a3, a7, a18, a19, rfl, rfl⟩ := frs_ok (cf := cf) (s := l_law_4) (l := List.range (tr r).puts.length) (f := nD) (src := .fix (lD (List.range (tr r).puts.length))) (env := en sc (enc r) a3 a4 a5 a6 a7 a8 a9 a10 (tr r) a18 a19) (st := st)
    (fun l _ => ∀ n ∈ l, n < (tr r).puts.length) (fun (_ : Unit) env st' => ∃ a3 a7 a18 a19, env = en sc (enc r) a3 a4 a5 a6 a7 a8 a9 a10 (tr r) a18 a19 ∧ st' = st) (fun _ _ => ()) () rfl (evI_one (tr r).puts.length (by simp [enc]) (by omega)) rfl (fun _ _ _ _ => rfl) (fun n hn => List.mem_range.mp hn) ⟨_, _, _, _, rfl, rfl⟩ (fun _ n l env st' p i => by
      obtain ⟨a3, a7, a18, a19, rfl, rfl⟩ := i
      obtain ⟨b7, b18, b19, e⟩ := four_turn (sc := sc) (a3 := a3) (a4 := a4) (a5 := a5) (a6 := a6) (a7 := a7) (a8 := a8) (a9 := a9) (a10 := a10) (a18 := a18) (a19 := a19) f hr hl (p n List.mem_cons_self) st'
      exact ⟨_, _, .inl e, ⟨_, _, _, _, rfl, rfl⟩, fun z hz => p z (List.mem_cons_of_mem _ hz)⟩)
  exact ⟨_, _, _, _, e⟩
/-! the free pairs -/
theorem x4_ok {s : S} {q : Q} (j : J s q) {i : Nat} (hi : i < s.puts.length) (hl : s.puts.length ≤ 100) (st : Store) (run : D) :
    (ev cf x_law_4 (en sc run a3 a4 (some (nD i)) a6 a7 a8 a9 a10 s a18 a19)).x st = some (.ok (.f (prD i (fr s q i))), st) := by
  rw [comp_ok (x := x_law_4) (l := List.range' (i + 1) (s.puts.length - (i + 1))) (f := nD) (src := .fix (lD (List.range' (i + 1) (s.puts.length - (i + 1))))) (gg := fun k => if (!sees s q k i) = true then some (.tup [nD i, nD k]) else none) rfl (evI_two (i + 1) s.puts.length (by simp [enc, nD]) (by omega) (by omega)) rfl rfl (by simp; omega) (fun k hk => by
    obtain ⟨m, h1, h2⟩ := List.mem_range'.mp hk
    obtain ⟨x, hx, ax, lx, mx⟩ := saw_at j (show k < s.puts.length by omega)
    have e := saw_mem j (show k < s.puts.length by omega) hx i
    have hik : i < k := by omega
    cases c : sees s q k i with
    | true =>
      have : i ∈ x := e.mpr ⟨hik, c⟩
      simp [nD, vBef, ax, in_lD, this]
    | false =>
      have : ¬ i ∈ x := fun z => by have := (e.mp z).2; rw [c] at this; cases this
      simp [nD, vBef, ax, in_lD, this])]
  rw [filterMap_if (fun k => !sees s q k i) (fun k => D.tup [nD i, nD k])]
  rfl
theorem add_lst {e : CE} {env : Cl.Env} {st : Store} {i : Nat} {xs ys : List D} (h : env[i]? = some (some (.lst xs))) (h2 : (ev cf e env).x st = some (.ok (.f ys), st)) (hl : xs.length + ys.length ≤ 100000) : (ev cf (.bin .Add (.var i) e) env).x st = some (.ok (.f (xs ++ ys)), st) := by
  refine ev_bin (ev_var h) h2 ?_
  simp [hl]
theorem three_ok {s : S} {q : Q} (j : J s q) (hl : s.puts.length ≤ 100) (st : Store) (run : D) :
    ∃ b5, evS cf l_law_3 (en sc run a3 (some (.lst [])) a5 a6 a7 a8 a9 a10 s a18 a19) st = some (.nx (en sc run a3 (some (.lst (fpD s q))) b5 a6 a7 a8 a9 a10 s a18 a19) st) := by
  obtain ⟨env', st', e, a5, rfl, rfl⟩ := frs_ok (cf := cf) (s := l_law_3) (l := List.range s.puts.length) (f := nD) (src := .fix (lD (List.range s.puts.length))) (env := en sc run a3 (some (.lst [])) a5 a6 a7 a8 a9 a10 s a18 a19) (st := st)
    (fun l acc => Few acc l ∧ ∀ n ∈ l, n < s.puts.length) (fun acc env st' => ∃ a5, env = en sc run a3 (some (.lst acc)) a5 a6 a7 a8 a9 a10 s a18 a19 ∧ st' = st) (fun acc i => acc ++ prD i (fr s q i)) [] rfl (evI_one s.puts.length (by simp [enc]) (by omega)) rfl (fun _ _ _ _ => rfl) ⟨few0 _ (by simpa using hl), fun n hn => List.mem_range.mp hn⟩ ⟨_, rfl, rfl⟩ (fun acc i l env st' p z => by
      obtain ⟨a5, rfl, rfl⟩ := z
      have hi := p.2 i List.mem_cons_self
      have hl2 := fr_len s q i
      have hl3 : (prD i (fr s q i)).length ≤ 100 := by unfold prD; rw [List.length_map]; omega
      refine ⟨en sc run a3 (some (.lst (acc ++ prD i (fr s q i)))) (some (nD i)) a6 a7 a8 a9 a10 s a18 a19, st', .inl ?_, ⟨_, rfl, rfl⟩, p.1.step hl3, fun z hz => p.2 z (List.mem_cons_of_mem _ hz)⟩
      show evSs cf b_law_3 (en sc run a3 (some (.lst acc)) (some (nD i)) a6 a7 a8 a9 a10 s a18 a19) st' = _
      exact nx_step (asg_nm (add_lst rfl (x4_ok j hi hl st' run) (p.1.le hl3)) (by simp)) rfl)
  rw [foldl_flat, List.nil_append] at e
  exact ⟨_, e⟩
end
end K02

namespace K02
open PySem Cl
open L2 (atI ixN)
section
variable {cf : CF} {sc : D} {r : List Ev} {st : Store} {a3 a4 a5 a6 a7 a8 a9 a10 a18 a19 : Option D}
theorem plain_pr (n : Nat) (s : S) (q : Q) : plainDs (n + 1) (fpD s q) = true := by
  rw [plainDs_iff]
  intro d hd
  obtain ⟨i, _, hd⟩ := List.mem_flatMap.mp hd
  obtain ⟨j, _, rfl⟩ := List.mem_map.mp hd
  rfl
theorem solid_pr (s : S) (q : Q) : solids (fpD s q) = true := by
  rw [solids_iff]
  intro d hd
  obtain ⟨i, _, hd⟩ := List.mem_flatMap.mp hd
  obtain ⟨j, _, rfl⟩ := List.mem_map.mp hd
  rfl
theorem eqD_nil {xs : List D} (h1 : plainDs 63 xs = true) (h2 : solids xs = true) : eqD st (.lst xs) (.lst []) = some (decide (xs = [])) := by
  rw [eqD_solid (a := .lst xs) h1 rfl h2 rfl]
  cases xs <;> simp [D.beq, Ds.beq]
theorem plain_np (i : Int) : plainD 64 (.tup [.str "no place", .int i]) = true := by
  have : PyData.strOk "no place" = true := by decide +kernel
  show (PyData.strOk "no place" && (true && true)) = true
  rw [this]; rfl
theorem look_heard (f : F cf) (hr : Fit r {}) : (ev cf (.or (.cmp .NotEq (.cal "_law_heard" (.cons (.var 2) (.cons (.bi .len (.cons (.var 13) .nil)) .nil))) (.tup (.cons (.str "no place") (.cons (.bi .len (.cons (.var 13) .nil)) .nil)))) (.cmp .NotEq (.cal "_law_heard" (.cons (.var 2) (.cons (.neg (.int 1)) .nil))) (.tup (.cons (.str "no place") (.cons (.neg (.int 1)) .nil))))) (en sc (enc r) a3 a4 a5 a6 a7 a8 a9 a10 (tr r) a18 a19)).t st = some (.ok false, st) := by
  have j := tr_J hr
  have h1 := f.heard (st := st) r hr ((tr r).puts.length : Int) (by rw [j.len]; omega)
  have h2 := f.heard (st := st) r hr (-1) (by omega)
  refine or_no (ne_no (x := .v (.tup [.str "no place", .int ((tr r).puts.length : Int)])) (y := .v (.tup [.str "no place", .int ((tr r).puts.length : Int)])) ?_ ?_ (eqD_refl (plain_np _))) (ne_no (x := .v (.tup [.str "no place", .int (-1)])) (y := .v (.tup [.str "no place", .int (-1)])) ?_ ?_ (eqD_refl (plain_np _)))
  · simp [enc] at h1 ⊢; simp [h1]
  · simp [enc]
  · simp at h2 ⊢; simp [h2]
  · simp
theorem look_free (f : F cf) (hr : Fit r {}) (hl : r.length ≤ 100) : (ev cf (.or (.cmp .NotEq (.cal "free_pairs" (.cons (.var 2) .nil)) (.bi .tuple (.cons (.var 4) .nil))) (.cmp .NotEq (.cmp .Eq (.cal "weaving_count" (.cons (.var 2) .nil)) (.int 1)) (.cmp .Eq (.var 4) (.lst .nil)))) (en sc (enc r) a3 (some (.lst (fpD (tr r) (quads r)))) a5 a6 a7 a8 a9 a10 (tr r) a18 a19)).t st = some (.ok false, st) := by
  have j := tr_J hr
  have hf := f.free (st := st) r hr hl
  have hw := f.count (st := st) r hr (by omega)
  have ow := one_way j (tr_H hr)
  rw [← fp_nil] at ow
  generalize Wy (tr r) (quads r) 0 0 = w at hw ow
  have p1 := plain_pr 62 (tr r) (quads r)
  have s1 := solid_pr (tr r) (quads r)
  generalize fpD (tr r) (quads r) = fp at *
  have e1 := eqD_nil (st := st) p1 s1
  have ow2 : ((w : Int) = 1) ↔ fp = [] := by rw [← ow]; omega
  refine or_no (ne_no (x := .v (.tup fp)) (y := .v (.tup fp)) (by simp [hf]) (by simp) (eqD_refl (a := .tup fp) p1)) (ne_no (x := .v (.bl (decide ((w : Int) = 1)))) (y := .v (.bl (decide (fp = [])))) (by simp [hw]) (by simp [e1]) ?_)
  show eqD st (.bl _) (.bl _) = _
  rw [eqD_bl]
  simp [ow2]
theorem ev_rngT {e : CE} {env : Cl.Env} {n : Nat} (h : (ev cf e env).x st = some (.ok (.v (.int (n : Nat))), st)) (hn : n ≤ 1000) : (ev cf (.rngS .no e true) env).x st = some (.ok (.v (.tup (lD (List.range n)))), st) := by
  have e1 := rngD_nat 0 n
  rw [show ((0 : Nat) : Int) = 0 from rfl] at e1
  have ob : okB (n : Int) = true := by unfold okB; simp; omega
  simp [h, show okB 0 = true from rfl, ob, e1, List.range_eq_range']
theorem plain_rng (n : Nat) : plainD 64 (.tup (lD (List.range n))) = true := plain_lD 63 _
theorem look_rest (f : F cf) (hr : Fit r {}) (z : Quiet r) : (ev cf (.or (.cmp .NotEq (.cal "settled" (.cons (.var 2) .nil)) (.var 6)) (.or (.isC (.cal "is_at_rest" (.cons (.var 6) .nil)) (.bl true) true) (.or (.cmp .NotEq (.cal "puts_of" (.cons (.var 6) .nil)) (.var 13)) (.or (.cmp .NotEq (.cal "known" (.cons (.var 6) (.cons (.int 0) .nil))) (.rngS .no (.bi .len (.cons (.var 13) .nil)) true)) (.cmp .NotEq (.cal "known" (.cons (.var 6) (.cons (.int 1) .nil))) (.rngS .no (.bi .len (.cons (.var 13) .nil)) true)))))) (en sc (enc r) a3 a4 a5 (some (enc (quiet r))) a7 a8 a9 a10 (tr r) a18 a19)).t st = some (.ok false, st) := by
  have hl := (tr_len hr).1
  have h1 := f.settled (st := st) r hr
  have h2 := f.rest (st := st) (quiet r) z.fit
  have h3 := f.puts (st := st) (quiet r) z.fit
  have h4 := f.known (st := st) (quiet r) z.fit false
  have h5 := f.known (st := st) (quiet r) z.fit true
  have l0 := (lets_nil (tr (quiet r)) false).mpr (z.rd false)
  have l1 := (lets_nil (tr (quiet r)) true).mpr (z.rd true)
  rw [l0, l1] at h2
  rw [z.puts] at h3
  rw [quiet_srt z] at h4 h5
  simp only [sd_f, sd_t] at h4 h5
  have rg : (ev cf (.rngS .no (.bi .len (.cons (.var 13) .nil)) true) (en sc (enc r) a3 a4 a5 (some (enc (quiet r))) a7 a8 a9 a10 (tr r) a18 a19)).x st = some (.ok (.v (.tup (lD (List.range (tr r).puts.length)))), st) := ev_rngT (by simp [enc]) hl
  refine or_no (ne_no (x := .v (enc (quiet r))) (y := .v (enc (quiet r))) (by simp [h1]) (by simp) (eqD_refl (plain_enc _))) (or_no (isnt_no (by simp at h2; simp [h2])) (or_no (ne_no (x := .v (enc (tr r).puts)) (y := .v (enc (tr r).puts)) (by simp [h3]) (by simp) (eqD_refl (plain_enc _))) (or_no (ne_no (x := .v (.tup (lD (List.range (tr r).puts.length)))) (by simp [h4]) rg (eqD_refl (plain_rng _))) (ne_no (x := .v (.tup (lD (List.range (tr r).puts.length)))) (by simp [h5]) rg (eqD_refl (plain_rng _))))))
theorem saw_list (l : List (List Nat)) : sawD l = (List.range l.length).map fun n => .tup (lD (l.getD n [])) := by
  unfold sawD
  apply List.ext_getElem
  · simp
  · intro i h1 h2
    simp at h1
    simp [h1]
theorem quiet_free {r : List Ev} (z : Quiet r) : fpD (tr (quiet r)) (quads (quiet r)) = fpD (tr r) (quads r) := by
  unfold fpD fr
  rw [quiet_sees z, z.puts]
theorem look_still (f : F cf) (hr : Fit r {}) (z : Quiet r) (hl : r.length ≤ 30) (hq : (quiet r).length ≤ 100) : (ev cf (.or (.cmp .NotEq x_law_3 (.bi .list (.cons (.var 14) .nil))) (.cmp .NotEq (.cal "free_pairs" (.cons (.var 6) .nil)) (.bi .tuple (.cons (.var 4) .nil)))) (en sc (enc r) a3 (some (.lst (fpD (tr r) (quads r)))) a5 (some (enc (quiet r))) a7 a8 a9 a10 (tr r) a18 a19)).t st = some (.ok false, st) := by
  have j := tr_J hr
  have hlp := puts_le (r := r)
  have h1 := f.free (st := st) (quiet r) z.fit hq
  rw [quiet_free z] at h1
  refine or_no (ne_no (x := .f (sawD (tr r).saw)) (y := .f (sawD (tr r).saw)) ?_ (by simp [vBef]) (eqD_refl (a := .lst _) (plain_saw 62 _))) (ne_no (x := .v (.tup (fpD (tr r) (quads r)))) (y := .v (.tup (fpD (tr r) (quads r)))) (by simp [h1]) (by simp) (eqD_refl (a := .tup _) (plain_pr 62 _ _)))
  rw [saw_list, j.len]
  refine comp_all (x := x_law_3) (l := List.range (tr r).puts.length) (f := nD) (src := .fix (lD (List.range (tr r).puts.length))) rfl (evI_one (tr r).puts.length (by simp [enc]) (by omega)) rfl rfl (by simp; omega) (fun n hn => ?_)
  have hn := List.mem_range.mp hn
  obtain ⟨x, hx, _⟩ := saw_at j hn
  have se := f.seen (st := st) (quiet r) z.fit n x (by rw [z.saw]; exact hx)
  simp [nD, se, hx]
/-! the sides' orders -/
theorem kn_at (s : S) (b : Bool) : atI [D.tup (lD (srtN (s.kn false))), .tup (lD (srtN (s.kn true)))] (sd b) = some (.tup (lD (srtN (s.kn b)))) := by cases b <;> simp
theorem two_turn (f : F cf) (hr : Fit r {}) (z : Quiet r) (hl : (quiet r).length ≤ 100) (b : Bool) :
    turnS cf (.nm 7) b_law_2 (.int (sd b)) (en sc (enc r) a3 a4 a5 (some (enc (quiet r))) a7 a8 a9 a10 (tr r) a18 a19) st = some (.nx (en sc (enc r) a3 a4 a5 (some (enc (quiet r))) (some (.int (sd b))) a8 a9 a10 (tr r) (some (.tup (lD ((tr r).kn b)))) a19) st) := by
  have j := tr_J hr
  have c := Row.kn j (tr_Cau hr) b
  have jq := tr_J z.fit
  have cq := Row.kn jq (tr_Cau z.fit) b
  have l1 := kn_len hr b
  have l2 := kn_len z.fit b
  have o1 := f.order (st := st) r hr b
  have o2 := f.order (st := st) (quiet r) z.fit b
  have w1 := f.wof (st := st) r hr ((tr r).kn b) _ c l1 rfl (srtN_self (srtN_asc c.nodup))
  have w2 := f.wea (st := st) (quiet r) z.fit ((tr (quiet r)).kn b) cq l2 (by rw [quiet_srt z, z.puts])
  have w3 := f.reads (st := st) r hr ((tr r).kn b) c l1
  have w4 := f.lreads (st := st) (tr r) ((tr r).kn b) c.lt l1
  have ka := kn_at (tr r) b
  show evSs cf b_law_2 (en sc (enc r) a3 a4 a5 (some (enc (quiet r))) (some (.int (sd b))) a8 a9 a10 (tr r) a18 a19) st = _
  refine nx_step (asg_nm (x := .v (.tup (lD ((tr r).kn b)))) (st1 := st) (by simp [o1]) (by simp)) ?_
  refine nx_step (ite_no (or_no (isnt_no ?_) (or_no (isnt_no ?_) (ne_no (x := .v (.tup (lD ((tr r).kn b |>.map (tr r).let)))) (y := .v (.tup (lD ((tr r).kn b |>.map (tr r).let)))) ?_ ?_ (eqD_refl (plain_lD 63 _)))))) rfl
  · simp [vKn, ka, w1]
  · simp [o2, w2]
  · simp [w3]
  · simp [w4]
theorem two_ok (f : F cf) (hr : Fit r {}) (z : Quiet r) (hl : (quiet r).length ≤ 100) :
    ∃ b7 b18, evS cf l_law_2 (en sc (enc r) a3 a4 a5 (some (enc (quiet r))) a7 a8 a9 a10 (tr r) a18 a19) st = some (.nx (en sc (enc r) a3 a4 a5 (some (enc (quiet r))) b7 a8 a9 a10 (tr r) b18 a19) st) := by
  obtain ⟨env', st', e, a7, a18, rfl, rfl⟩ := frs_ok (cf := cf) (s := l_law_2) (l := [false, true]) (f := fun b => .int (sd b)) (src := .fix [.int 0, .int 1]) (env := en sc (enc r) a3 a4 a5 (some (enc (quiet r))) a7 a8 a9 a10 (tr r) a18 a19) (st := st)
    (fun _ _ => True) (fun (_ : Unit) env st' => ∃ a7 a18, env = en sc (enc r) a3 a4 a5 (some (enc (quiet r))) a7 a8 a9 a10 (tr r) a18 a19 ∧ st' = st) (fun _ _ => ()) () rfl (by simp) rfl (fun _ _ _ _ => rfl) trivial ⟨_, _, rfl, rfl⟩ (fun _ b l env st' _ i => by
      obtain ⟨a7, a18, rfl, rfl⟩ := i
      exact ⟨_, _, .inl (two_turn f hr z hl b), ⟨_, _, rfl, rfl⟩, trivial⟩)
  exact ⟨_, _, e⟩
theorem look_least (f : F cf) (hr : Fit r {}) : (ev cf (.isC (.cal "is_weaving" (.cons (.var 2) (.cons (.rngS .no (.bi .len (.cons (.var 13) .nil)) true) .nil))) (.bl true) true) (en sc (enc r) a3 a4 a5 a6 a7 a8 a9 a10 (tr r) a18 a19)).t st = some (.ok false, st) := by
  have hl := (tr_len hr).1
  have rg : (ev cf (.rngS .no (.bi .len (.cons (.var 13) .nil)) true) (en sc (enc r) a3 a4 a5 a6 a7 a8 a9 a10 (tr r) a18 a19)).x st = some (.ok (.v (.tup (lD (List.range (tr r).puts.length)))), st) := ev_rngT (by simp [enc]) hl
  have w := f.wea (st := st) r hr (List.range (tr r).puts.length) (Row.rng (tr_J hr)) (by simpa using hl) (srtN_self (asc_range _))
  generalize CE.rngS CO.no (.bi .len (.cons (.var 13) .nil)) true = e at rg
  exact isnt_no (by simp [rg, w])
/-! exchanged -/
theorem x2_ok (hl : r.length ≤ 1000) (run : List Ev) (hl : run.length ≤ 1000) (s : S) : (ev cf x_law_2 (en sc (enc run) a3 a4 a5 a6 a7 a8 a9 a10 s a18 a19)).x st = some (.ok (.f ((run.map swE).map encE)), st) := by
  rw [comp_all (x := x_law_2) (l := run) (f := encE) (src := .fix (run.map encE)) (gg := fun e => encE (swE e)) rfl (by simp [enc, overD]) rfl rfl (by omega) (fun e _ => by
    obtain ⟨b, n⟩ := e
    cases b <;> simp [encE, swE])]
  rw [List.map_map]
  rfl
theorem look_far (f : F cf) (hr : Fit r {}) : (ev cf (.or (.cmp .NotEq (.cal "exchanged" (.cons (.var 2) .nil)) (.var 8)) (.or (.cmp .NotEq (.cal "exchanged" (.cons (.var 8) .nil)) (.var 2)) (.or (.cmp .NotEq (.cal "roads" (.cons (.var 8) .nil)) (.rev (.var 11))) (.or (.cmp .NotEq (.cal "order_of" (.cons (.var 8) (.cons (.int 0) .nil))) (.idx (.var 15) (.int 1))) (.cmp .NotEq (.idx (.var 9) (.int 3)) (.var 14)))))) (en sc (enc r) a3 a4 a5 a6 a7 (some (enc (r.map swE))) (some (tr (r.map swE)).told) a10 (tr r) a18 a19)).t st = some (.ok false, st) := by
  have fs := fit_swap hr
  have h1 := f.exch (st := st) r hr
  have h2 := f.exch (st := st) (r.map swE) fs
  have e2 : (r.map swE).map swE = r := by simp [List.map_map, Function.comp_def, swE]
  rw [e2] at h2
  have h3 := f.roads (st := st) (r.map swE) fs
  have h4 := f.order (st := st) (r.map swE) fs false
  rw [tr_swap, lets_swap, lets_swap] at h3
  rw [tr_swap] at h4
  simp only [sd_f] at h4
  have e4 : (tr r).swap.kn false = (tr r).kn true := rfl
  rw [e4] at h4
  simp only [Bool.not_false, Bool.not_true] at h3
  refine or_no (ne_no (x := .v (enc (r.map swE))) (y := .v (enc (r.map swE))) (by simp [h1]) (by simp) (eqD_refl (plain_enc _))) (or_no (ne_no (x := .v (enc r)) (y := .v (enc r)) (by simp [h2]) (by simp) (eqD_refl (plain_enc _))) (or_no (ne_no (x := .v (.tup [.tup (lD ((tr r).lets true)), .tup (lD ((tr r).lets false))])) (y := .v (.tup [.tup (lD ((tr r).lets true)), .tup (lD ((tr r).lets false))])) (by simp [h3]) (by simp [vLet, revD]) (eqD_refl (by simp [plainD, plainDs, plain_lD]))) (or_no (ne_no (x := .v (.tup (lD ((tr r).kn true)))) (y := .v (.tup (lD ((tr r).kn true)))) (by simp [h4]) (by simp [vOrd]) (eqD_refl (plain_lD 63 _))) (ne_no (x := .v (vBef (tr r))) (y := .v (vBef (tr r))) ?_ (by simp) (eqD_refl (a := vBef (tr r)) (plain_saw 62 _))))))
  rw [told_eq, tr_swap]
  simp
  rfl
/-! an event more -/
theorem can_at (s : S) (b : Bool) : atI [D.bl (decide (s.lets false ≠ [])), .bl (decide (s.lets true ≠ []))] (sd b) = some (.bl (decide (s.lets b ≠ []))) := by cases b <;> simp
theorem enc_one (r : List Ev) (b : Bool) (n : Nat) : enc (r ++ [(b, n)]) = .tup (r.map encE ++ [.tup [.int (sd b), .int (n : Nat)]]) := by simp [enc, encE]
theorem one_turn (f : F cf) (hr : Fit r {}) (hl : r.length ≤ 1000) (b : Bool) :
    turnS cf (.nm 7) b_law_1 (.int (sd b)) (en sc (enc r) a3 a4 a5 a6 a7 a8 a9 a10 (tr r) a18 a19) st = some (.nx (en sc (enc r) a3 a4 a5 a6 (some (.int (sd b))) a8 a9 a10 (tr r) a18 a19) st) := by
  have h1 := f.snoc (st := st) r hr (b, 0)
  have h2 := f.snoc (st := st) r hr (b, 5)
  have e : decide (0 < (b, 0).2 ∨ (tr r).rd (b, 0).1 ≠ []) = decide ((tr r).lets b ≠ []) := by
    have := lets_nil (tr r) b
    by_cases c : (tr r).rd b = [] <;> simp [c, this]
  rw [e, enc_one] at h1
  rw [enc_one] at h2
  have e2 : decide (0 < (b, 5).2 ∨ (tr r).rd (b, 5).1 ≠ []) = true := by simp
  rw [e2] at h2
  have ca := can_at (tr r) b
  generalize decide ((tr r).lets b ≠ []) = cb at h1 ca
  have hl2 : r.length ≤ 99999 := by omega
  replace h1 : cf "is_run" [.tup (r.map encE ++ [.tup [.int (sd b), .int 0]])] st = some (.ok (.bl cb), st) := h1
  replace h2 : cf "is_run" [.tup (r.map encE ++ [.tup [.int (sd b), .int 5]])] st = some (.ok (.bl true), st) := h2
  show evSs cf b_law_1 (en sc (enc r) a3 a4 a5 a6 (some (.int (sd b))) a8 a9 a10 (tr r) a18 a19) st = _
  refine nx_step (ite_no (or_no (ne_no (x := .v (.bl cb)) (y := .v (.bl cb)) ?_ ?_ (by show eqD st (.bl cb) (.bl cb) = _; rw [eqD_bl]; simp)) (isnt_no ?_))) rfl
  · simp [enc, hl2, h1]
  · simp only [en, vCan]
    simp only [ev, mkE, Cl.bnd, Cl.lft, List.getElem?_cons_succ, List.getElem?_cons_zero, E.val, idxD, rdS, rdL, ca, Option.map]
  · simp [enc, hl2, h2]
theorem one_ok (f : F cf) (hr : Fit r {}) (hl : r.length ≤ 1000) :
    ∃ b7, evS cf l_law_1 (en sc (enc r) a3 a4 a5 a6 a7 a8 a9 a10 (tr r) a18 a19) st = some (.nx (en sc (enc r) a3 a4 a5 a6 b7 a8 a9 a10 (tr r) a18 a19) st) := by
  obtain ⟨env', st', e, a7, rfl, rfl⟩ := frs_ok (cf := cf) (s := l_law_1) (l := [false, true]) (f := fun b => .int (sd b)) (src := .fix [.int 0, .int 1]) (env := en sc (enc r) a3 a4 a5 a6 a7 a8 a9 a10 (tr r) a18 a19) (st := st)
    (fun _ _ => True) (fun (_ : Unit) env st' => ∃ a7, env = en sc (enc r) a3 a4 a5 a6 a7 a8 a9 a10 (tr r) a18 a19 ∧ st' = st) (fun _ _ => ()) () rfl (by simp) rfl (fun _ _ _ _ => rfl) trivial ⟨_, rfl, rfl⟩ (fun _ b l env st' _ i => by
      obtain ⟨a7, rfl, rfl⟩ := i
      exact ⟨_, _, .inl (one_turn f hr hl b), ⟨_, rfl, rfl⟩, trivial⟩)
  exact ⟨_, e⟩
end
end K02

namespace K02
open PySem Cl
open L2 (atI ixN)
section
variable {cf : CF} {sc : D} {r : List Ev} {st : Store} {a3 a4 a5 a6 a7 a8 a9 a10 a18 a19 : Option D}
def bents (r : List Ev) : List D := [.tup (r.map encE ++ [.tup [.int 2, .int 1]]), .tup (r.map encE ++ [.tup [.int 0, .int (-1)]]), .lst (r.map encE ++ [.tup [.int 0, .int 1]]), .tup (r.map encE ++ [.tup [.int 0, .bl true]]), .tup (r.map encE ++ [.lst [.int 0, .int 1]]), .tup (r.map encE ++ [.tup [.int 0]])]
theorem x1_ok (f : F cf) (hr : Fit r {}) (env : Cl.Env) (h : env[10]? = some (some (.lst (bents r)))) (h18 : 18 < env.length) : (ev cf x_law_1 env).x st = some (.ok (.f []), st) := by
  obtain ⟨b1, b2, b4, b5, b6⟩ := f.bent (st := st) r hr
  have b3 := f.lst (st := st) (r.map encE ++ [.tup [.int 0, .int 1]])
  have key : ∀ d ∈ bents r, cf "is_run" [d] st = some (.ok (.bl false), st) := by
    intro d hd
    simp only [bents, List.mem_cons, List.mem_nil_iff, or_false] at hd
    rcases hd with rfl | rfl | rfl | rfl | rfl | rfl
    · exact b1
    · exact b2
    · exact b3
    · exact b4
    · exact b5
    · exact b6
  rw [comp_ok (x := x_law_1) (l := bents r) (f := fun d => d) (src := .fix (bents r)) (gg := fun _ => none) rfl (by simp [h, overD]) (by simp) rfl (by simp [bents]) (fun d hd => by
    have := key d hd
    simp [h18, this])]
  simp
theorem bent_ok (hl : r.length ≤ 1000) : (ev cf (.lst (.cons (.bin .Add (.var 2) (.tup (.cons (.tup (.cons (.int 2) (.cons (.int 1) .nil))) .nil))) (.cons (.bin .Add (.var 2) (.tup (.cons (.tup (.cons (.int 0) (.cons (.neg (.int 1)) .nil))) .nil))) (.cons (.bin .Add (.bi .list (.cons (.var 2) .nil)) (.lst (.cons (.tup (.cons (.int 0) (.cons (.int 1) .nil))) .nil))) (.cons (.bin .Add (.var 2) (.tup (.cons (.tup (.cons (.int 0) (.cons (.bl true) .nil))) .nil))) (.cons (.bin .Add (.var 2) (.tup (.cons (.lst (.cons (.int 0) (.cons (.int 1) .nil))) .nil))) (.cons (.bin .Add (.var 2) (.tup (.cons (.tup (.cons (.int 0) .nil)) .nil))) .nil))))))) (en sc (enc r) a3 a4 a5 a6 a7 a8 a9 a10 (tr r) a18 a19)).x st = some (.ok (.f (bents r)), st) := by
  have h : r.length ≤ 99999 := by omega
  simp [enc, bents, h]
theorem cut_run (r : List Ev) (n : Nat) : cutD (r.map encE) none (some (n : Int)) = (r.take n).map encE := by
  unfold cutD
  have h1 : HT.sIx (r.map encE).length 0 none = 0 := rfl
  have h2 : HT.sIx (r.map encE).length (r.map encE).length (some (n : Int)) = min n (r.map encE).length := HT.sIx_nat _ _ _
  rw [h1, h2, List.length_map, List.drop_zero, Nat.sub_zero]
  by_cases h : n ≤ r.length
  · rw [Nat.min_eq_left h, List.map_take]
  · rw [Nat.min_eq_right (by omega), List.take_of_length_le (by simp), List.take_of_length_le (by omega)]
theorem last_ok {cf : CF} {x1 : CE} {env : Cl.Env} {st st1 : Store} {m : Nat} (h1 : (ev cf x1 env).x st = some (.ok (.f []), st)) (h2 : env[2]? = some (some (enc r))) (h3 : env[1]? = some (some (.loc 0)))
    (ht : cf "_law_take" [.loc 0, .int ((r.length : Int) + 1)] st = some (.ok (.int (m : Nat)), st1)) (hr : cf "is_run" [enc (r.take m)] st1 = some (.ok (.bl true), st1)) :
    evSs cf (.cons (.ret (.and (.cmp .Eq x1 (.lst .nil)) (.isC (.cal "is_run" (.cons (.slc (.var 2) .no (.so (.cal "_law_take" (.cons (.var 1) (.cons (.bin .Add (.bi .len (.cons (.var 2) .nil)) (.int 1)) .nil))))) .nil)) (.bl true) false))) .nil) env st = some (.rt (.bl true) st1) := by
  have e := eqD_refl (st := st) (a := .lst []) rfl
  simp only [enc] at h2 hr
  rw [List.map_take] at hr
  simp [h1, h2, h3, ht, e, slcD, cut_run, hr]
theorem fit_take {r : List Ev} (hr : Fit r {}) (m : Nat) : Fit (r.take m) {} := by
  refine fit_of ?_ (by have := hr.len; rw [List.length_take]; omega)
  have h := hr.1
  rw [← List.take_append_drop m r] at h
  exact h.left
theorem set_told {env : Cl.Env} (f : F cf) (hr : Fit r {}) : evS cf (.asg (.tup (.cons (.nm 11) (.cons (.nm 12) (.cons (.nm 13) (.cons (.nm 14) (.cons (.nm 15) (.cons (.nm 16) (.cons (.nm 17) .nil)))))))) (.cal "_law_told" (.cons (.var 2) .nil))) [some sc, some (.loc 0), some (enc r), none, none, none, none, none, none, none, none, none, none, none, none, none, none, none, none, none, none, none, none] st =
    some (.nx (en sc (enc r) none none none none none none none none (tr r) none none) st) := by
  have t := f.told (st := st) r hr
  rw [told_eq] at t
  simp [t]
theorem bi_tuple {cf : CF} {a : CE} {env : Cl.Env} {st : Store} {ds : List D} (h : (ev cf a env).x st = some (.ok (.f ds), st)) : (ev cf (.bi .tuple (.cons a .nil)) env).x st = some (.ok (.v (.tup ds)), st) := by simp [h]
theorem law_go (f : F cf) (hr : Fit r {}) (hl : r.length ≤ 14) {u0 u1 u2 : Int} {x : O} {m : Nat} (ht : cf "_law_take" [.loc 0, .int ((r.length : Int) + 1)] [urnO u0 u1 u2] = some (.ok (.int (m : Nat)), [x]))
    (h1 : ∀ env : Cl.Env, env = [some sc, none, none, none, none, none, none, none, none, none, none, none, none, none, none, none, none, none, none, none, none, none, none] → ∃ v w, evS cf (.asg (.nm 1) (.cal "_law_box" (.cons (.cal "_law_cells" (.cons (.var 0) (.cons (.int 1) .nil))) (.cons (.int 0) .nil)))) env [] = some (.nx (env.set 1 (some (.loc 0))) v) ∧
      evS cf (.asg (.nm 2) (.cal "_law_run" (.cons (.var 1) (.cons (.int 3) (.cons (.int 14) .nil))))) (env.set 1 (some (.loc 0))) v = some (.nx ((env.set 1 (some (.loc 0))).set 2 (some (enc r))) w) ∧ w = [urnO u0 u1 u2]) :
    evSs cf c_law [some sc, none, none, none, none, none, none, none, none, none, none, none, none, none, none, none, none, none, none, none, none, none, none] [] = some (.rt (.bl true) [x]) := by
  have j := tr_J hr
  have z := quiet_ok hr (by omega)
  have hp := puts_le (r := r)
  have hq : (quiet r).length ≤ 100 := by
    have h0 := rd_le hr false
    have h1 := rd_le hr true
    simp [quiet, S.home]; omega
  obtain ⟨v, w, e1, e2, rfl⟩ := h1 _ rfl
  refine nx_step e1 (nx_step e2 ?_)
  refine nx_step (set_told (env := []) f hr) ?_
  refine nx_step (ite_no (look_same f hr)) ?_
  refine nx_step (ite_no (look_know f hr)) ?_
  obtain ⟨b3, b7, b18, b19, e4⟩ := four_ok (sc := sc) (a3 := none) (a4 := none) (a5 := none) (a6 := none) (a7 := none) (a8 := none) (a9 := none) (a10 := none) (a18 := none) (a19 := none) f hr (by omega) [urnO u0 u1 u2]
  refine nx_step e4 ?_
  refine nx_step (ite_no (look_heard f hr)) ?_
  refine nx_step (asg_nm (x := .f []) (st1 := [urnO u0 u1 u2]) (by simp) (by simp)) ?_
  obtain ⟨b5, e3⟩ := three_ok (cf := cf) (sc := sc) (a3 := b3) (a5 := none) (a6 := none) (a7 := b7) (a8 := none) (a9 := none) (a10 := none) (a18 := b18) (a19 := b19) j (by omega) [urnO u0 u1 u2] (enc r)
  refine nx_step e3 ?_
  refine nx_step (ite_no (look_free f hr (by omega))) ?_
  have es := f.lsettled (st := [urnO u0 u1 u2]) r hr
  refine nx_step (asg_nm (x := .v (enc (quiet r))) (st1 := [urnO u0 u1 u2]) (by simp [es]) (by simp)) ?_
  refine nx_step (ite_no (look_rest (sc := sc) (a3 := b3) (a4 := some (.lst (fpD (tr r) (quads r)))) (a5 := b5) (a7 := b7) (a8 := none) (a9 := none) (a10 := none) (a18 := b18) (a19 := b19) f hr z)) ?_
  refine nx_step (ite_no (look_still (sc := sc) (a3 := b3) (a5 := b5) (a7 := b7) (a8 := none) (a9 := none) (a10 := none) (a18 := b18) (a19 := b19) f hr z (by omega) hq)) ?_
  obtain ⟨c7, c18, e6⟩ := two_ok (sc := sc) (st := [urnO u0 u1 u2]) (a3 := b3) (a4 := some (.lst (fpD (tr r) (quads r)))) (a5 := b5) (a7 := b7) (a8 := none) (a9 := none) (a10 := none) (a18 := b18) (a19 := b19) f hr z hq
  refine nx_step e6 ?_
  refine nx_step (ite_no (look_least f hr)) ?_
  have ex := x2_ok (cf := cf) (sc := sc) (st := [urnO u0 u1 u2]) (a3 := b3) (a4 := some (.lst (fpD (tr r) (quads r)))) (a5 := b5) (a6 := some (enc (quiet r))) (a7 := c7) (a8 := none) (a9 := none) (a10 := none) (a18 := c18) (a19 := b19) (r := r) (by omega) r (by omega) (tr r)
  refine nx_step (asg_nm (x := .v (enc (r.map swE))) (st1 := [urnO u0 u1 u2]) (bi_tuple ex) (by simp)) ?_
  have et := f.told (st := [urnO u0 u1 u2]) (r.map swE) (fit_swap hr)
  refine nx_step (asg_nm (x := .v (tr (r.map swE)).told) (st1 := [urnO u0 u1 u2]) (by simp [et]) (by simp)) ?_
  refine nx_step (ite_no (look_far (sc := sc) (a3 := b3) (a4 := some (.lst (fpD (tr r) (quads r)))) (a5 := b5) (a6 := some (enc (quiet r))) (a7 := c7) (a10 := none) (a18 := c18) (a19 := b19) f hr)) ?_
  obtain ⟨d7, e7⟩ := one_ok (sc := sc) (st := [urnO u0 u1 u2]) (a3 := b3) (a4 := some (.lst (fpD (tr r) (quads r)))) (a5 := b5) (a6 := some (enc (quiet r))) (a7 := c7) (a8 := some (enc (r.map swE))) (a9 := some (tr (r.map swE)).told) (a10 := none) (a18 := c18) (a19 := b19) f hr (by omega)
  refine nx_step e7 ?_
  refine nx_step (asg_nm (x := .f (bents r)) (st1 := [urnO u0 u1 u2]) (bent_ok (by omega)) (by simp)) ?_
  exact last_ok (x1_ok f hr _ rfl (by simp)) rfl rfl ht (f.is_run _ (fit_take hr m))
end
theorem says : Cl.Says T 60 := by
  intro ns hn s hs
  obtain ⟨cs, hc, e1⟩ := cells_ok (k := 58) (st := []) ns hn s hs
  obtain ⟨u0, u1, h0, e2⟩ := box_ok (k := 58) cs hc
  obtain ⟨r, v0, v2, e3, ok, hl, g0, g1, g2⟩ := law_run_ok (k := 57) (letters := 3) (most := 14) (by decide) (by decide) (by decide) (t := []) (u0 := u0) (u1 := u1) (u2 := 0) h0 (by decide) (by decide)
  have hr : Fit r {} := fit_of ok (by omega)
  obtain ⟨d, w0, w2, e4, p1, p2, p3, p4, p5⟩ := take_ok (k := 58) (t := []) v0 u1 v2 ((r.length : Int) + 1) g0 g1 (by omega) (by omega) (by omega)
  obtain ⟨m, rfl⟩ : ∃ m : Nat, d = (m : Int) := ⟨d.toNat, by omega⟩
  have go := law_go (cf := calls TT 59) (sc := s) f59 hr hl e4 (fun env he => by
    subst he
    refine ⟨_, _, asg_nm (x := .v (.loc 0)) (st1 := [urnO u0 u1 0]) ?_ (by simp), asg_nm (x := .v (enc r)) (st1 := [urnO v0 u1 v2]) ?_ (by simp), rfl⟩
    · simp at e1 e2 ⊢
      simp [e1, e2]
    · simp at e3 ⊢
      simp [e3])
  refine ⟨[], ?_⟩
  rw [dfs_eq, at_law]
  unfold Df.run
  rw [if_pos (show [s].length = d_law.ps.length from rfl)]
  show (match evSs (calls TT 59) c_law [some s, none, none, none, none, none, none, none, none, none, none, none, none, none, none, none, none, none, none, none, none, none, none] [] with
    | some (.nx _ st1) => Df.fin true [] st1 .non
    | some (.rt v st1) => Df.fin true [] st1 v
    | some (.ex x _ st1) => Df.finX true [] st1 x
    | _ => none) = _
  rw [go]
  rfl
end K02

namespace K02
open PySem Cl L2 He
theorem b_is_number : BindE ⟨d_is_number, top 4⟩ := fun _ _ _ _ _ _ us hl => match us, hl with | [_], _ => rfl
theorem b_tuple_of : BindE ⟨d_tuple_of, top 5⟩ := fun _ _ _ _ _ _ us hl => match us, hl with | [_], _ => rfl
theorem b_is_tuple_of : BindE ⟨d_is_tuple_of, top 6⟩ := fun _ _ _ _ _ _ us hl => match us, hl with | [_, _], _ => rfl
theorem b_is_event : BindE ⟨d_is_event, top 8⟩ := fun _ _ _ _ _ _ us hl => match us, hl with | [_], _ => rfl
theorem b_is_run : BindE ⟨d_is_run, top 9⟩ := fun _ _ _ _ _ _ us hl => match us, hl with | [_], _ => rfl
theorem b_numbers_along : BindE ⟨d_numbers_along, top 10⟩ := fun _ _ _ _ _ _ us hl => match us, hl with | [_], _ => rfl
theorem b_numbers_known : BindE ⟨d_numbers_known, top 11⟩ := fun _ _ _ _ _ _ us hl => match us, hl with | [_], _ => rfl
theorem b_puts_of : BindE ⟨d_puts_of, top 12⟩ := fun _ _ _ _ _ _ us hl => match us, hl with | [_], _ => rfl
theorem b_roads : BindE ⟨d_roads, top 13⟩ := fun _ _ _ _ _ _ us hl => match us, hl with | [_], _ => rfl
theorem b_is_at_rest : BindE ⟨d_is_at_rest, top 14⟩ := fun _ _ _ _ _ _ us hl => match us, hl with | [_], _ => rfl
theorem b_can_take : BindE ⟨d_can_take, top 15⟩ := fun _ _ _ _ _ _ us hl => match us, hl with | [_, _], _ => rfl
theorem b_seen_by : BindE ⟨d_seen_by, top 16⟩ := fun _ _ _ _ _ _ us hl => match us, hl with | [_], _ => rfl
theorem b_seen : BindE ⟨d_seen, top 17⟩ := fun _ _ _ _ _ _ us hl => match us, hl with | [_, _], _ => rfl
theorem b_known : BindE ⟨d_known, top 18⟩ := fun _ _ _ _ _ _ us hl => match us, hl with | [_, _], _ => rfl
theorem b_settled : BindE ⟨d_settled, top 19⟩ := fun _ _ _ _ _ _ us hl => match us, hl with | [_], _ => rfl
theorem b_exchanged : BindE ⟨d_exchanged, top 20⟩ := fun _ _ _ _ _ _ us hl => match us, hl with | [_], _ => rfl
theorem b__puts : BindE ⟨d__puts, top 22⟩ := fun _ _ _ _ _ _ us hl => match us, hl with | [_], _ => rfl
theorem b__lanes : BindE ⟨d__lanes, top 23⟩ := fun _ _ _ _ _ _ us hl => match us, hl with | [_], _ => rfl
theorem b__next : BindE ⟨d__next, top 24⟩ := fun _ _ _ _ _ _ us hl => match us, hl with | [_, _, _], _ => rfl
theorem b__gone : BindE ⟨d__gone, top 25⟩ := fun _ _ _ _ _ _ us hl => match us, hl with | [_, _, _], _ => rfl
theorem b__ways : BindE ⟨d__ways, top 26⟩ := fun _ _ _ _ _ _ us hl => match us, hl with | [_, _], _ => rfl
theorem b__has_seen : BindE ⟨d__has_seen, top 27⟩ := fun _ _ _ _ _ _ us hl => match us, hl with | [_, _, _], _ => rfl
theorem b__is_order : BindE ⟨d__is_order, top 28⟩ := fun _ _ _ _ _ _ us hl => match us, hl with | [_, _, _], _ => rfl
theorem b__is_row : BindE ⟨d__is_row, top 29⟩ := fun _ _ _ _ _ _ us hl => match us, hl with | [_], _ => rfl
theorem b_is_weaving : BindE ⟨d_is_weaving, top 30⟩ := fun _ _ _ _ _ _ us hl => match us, hl with | [_, _], _ => rfl
theorem b_is_weaving_of : BindE ⟨d_is_weaving_of, top 31⟩ := fun _ _ _ _ _ _ us hl => match us, hl with | [_, _, _], _ => rfl
theorem b_reads : BindE ⟨d_reads, top 32⟩ := fun _ _ _ _ _ _ us hl => match us, hl with | [_, _], _ => rfl
theorem b_free_pairs : BindE ⟨d_free_pairs, top 33⟩ := fun _ _ _ _ _ _ us hl => match us, hl with | [_], _ => rfl
theorem b_weaving_count : BindE ⟨d_weaving_count, top 34⟩ := fun _ _ _ _ _ _ us hl => match us, hl with | [_], _ => rfl
theorem b_order_of : BindE ⟨d_order_of, top 35⟩ := fun _ _ _ _ _ _ us hl => match us, hl with | [_, _], _ => rfl
theorem b__law_box : BindE ⟨d__law_box, top 37⟩ := fun _ _ _ _ _ _ us hl => match us, hl with | [_, _], _ => rfl
theorem b__law_take : BindE ⟨d__law_take, top 38⟩ := fun _ _ _ _ _ _ us hl => match us, hl with | [_, _], _ => rfl
theorem b__law_cells : BindE ⟨d__law_cells, top 39⟩ := fun _ _ _ _ _ _ us hl => match us, hl with | [_, _], _ => rfl
theorem b__law_same : BindE ⟨d__law_same, top 40⟩ := fun _ _ _ _ _ _ us hl => match us, hl with | [_, _], _ => rfl
theorem b__law_run : BindE ⟨d__law_run, top 41⟩ := fun _ _ _ _ _ _ us hl => match us, hl with | [_, _, _], _ => rfl
theorem b__law_track : BindE ⟨d__law_track, top 42⟩ := fun _ _ _ _ _ _ us hl => match us, hl with | [_], _ => rfl
theorem b__law_settled : BindE ⟨d__law_settled, top 43⟩ := fun _ _ _ _ _ _ us hl => match us, hl with | [_], _ => rfl
theorem b__law_reads : BindE ⟨d__law_reads, top 44⟩ := fun _ _ _ _ _ _ us hl => match us, hl with | [_, _], _ => rfl
theorem b__law_heard : BindE ⟨d__law_heard, top 45⟩ := fun _ _ _ _ _ _ us hl => match us, hl with | [_, _], _ => rfl
theorem b__law_told : BindE ⟨d__law_told, top 46⟩ := fun _ _ _ _ _ _ us hl => match us, hl with | [_], _ => rfl
theorem b_law : BindE ⟨d_law, top 47⟩ := fun _ _ _ _ _ _ us hl => match us, hl with | [_], _ => rfl
theorem binds : ∀ e ∈ T, BindE e := List.forall_mem_cons.mpr ⟨b_is_number, List.forall_mem_cons.mpr ⟨b_tuple_of, List.forall_mem_cons.mpr ⟨b_is_tuple_of, List.forall_mem_cons.mpr ⟨b_is_event, List.forall_mem_cons.mpr ⟨b_is_run, List.forall_mem_cons.mpr ⟨b_numbers_along, List.forall_mem_cons.mpr ⟨b_numbers_known, List.forall_mem_cons.mpr ⟨b_puts_of, List.forall_mem_cons.mpr ⟨b_roads, List.forall_mem_cons.mpr ⟨b_is_at_rest, List.forall_mem_cons.mpr ⟨b_can_take, List.forall_mem_cons.mpr ⟨b_seen_by, List.forall_mem_cons.mpr ⟨b_seen, List.forall_mem_cons.mpr ⟨b_known, List.forall_mem_cons.mpr ⟨b_settled, List.forall_mem_cons.mpr ⟨b_exchanged, List.forall_mem_cons.mpr ⟨b__puts, List.forall_mem_cons.mpr ⟨b__lanes, List.forall_mem_cons.mpr ⟨b__next, List.forall_mem_cons.mpr ⟨b__gone, List.forall_mem_cons.mpr ⟨b__ways, List.forall_mem_cons.mpr ⟨b__has_seen, List.forall_mem_cons.mpr ⟨b__is_order, List.forall_mem_cons.mpr ⟨b__is_row, List.forall_mem_cons.mpr ⟨b_is_weaving, List.forall_mem_cons.mpr ⟨b_is_weaving_of, List.forall_mem_cons.mpr ⟨b_reads, List.forall_mem_cons.mpr ⟨b_free_pairs, List.forall_mem_cons.mpr ⟨b_weaving_count, List.forall_mem_cons.mpr ⟨b_order_of, List.forall_mem_cons.mpr ⟨b__law_box, List.forall_mem_cons.mpr ⟨b__law_take, List.forall_mem_cons.mpr ⟨b__law_cells, List.forall_mem_cons.mpr ⟨b__law_same, List.forall_mem_cons.mpr ⟨b__law_run, List.forall_mem_cons.mpr ⟨b__law_track, List.forall_mem_cons.mpr ⟨b__law_settled, List.forall_mem_cons.mpr ⟨b__law_reads, List.forall_mem_cons.mpr ⟨b__law_heard, List.forall_mem_cons.mpr ⟨b__law_told, List.forall_mem_cons.mpr ⟨b_law, List.forall_mem_nil _⟩⟩⟩⟩⟩⟩⟩⟩⟩⟩⟩⟩⟩⟩⟩⟩⟩⟩⟩⟩⟩⟩⟩⟩⟩⟩⟩⟩⟩⟩⟩⟩⟩⟩⟩⟩⟩⟩⟩⟩⟩
def ini : Stmt := inCls (top 1) 0
theorem isIni : IsIni ini := ⟨_, _, _, _, _, _, rfl, rfl, rfl⟩
def ex : List Str := ["Unfit"]
abbrev FA : List Fa := faOf T ex true
abbrev FN : List FnD := fnDs T true ini
abbrev R : PySem.W.OpenRow := PySem.W.OpenLaw.row PySem.Challenge.rw_bothroads_k02_main_runs_as_orders
abbrev hk : PySem.W.Hook := hookP 5 FA FN true
def ob (s : PySem.W.SharedT) : Al × Bool := obT 5 FA FN true s
theorem ob_eq (s : PySem.W.SharedT) : ob s = hk.obs s.abs := obT_eq s
def loose : List Str := (["NoPlace", "Unfit", "is_number", "tuple_of", "is_tuple_of", "is_event", "is_run", "numbers_along", "numbers_known", "puts_of", "roads", "is_at_rest", "can_take", "seen_by", "seen", "known", "settled", "exchanged", "_puts", "_lanes", "_next", "_gone", "_ways", "_has_seen", "_is_order", "_is_row", "is_weaving", "is_weaving_of", "reads", "free_pairs"] : List Str) ++ (["weaving_count", "order_of", "_law_box", "_law_take", "_law_cells", "_law_same", "_law_run", "_law_track", "_law_settled", "_law_reads", "_law_heard", "_law_told"] : List Str)
theorem run (w : World) : HandSHeadRun.RunEq R (PySem.W.view R.prog [47]) hk ob 2000 loose w := by
  intro os
  kernel_rfl
end K02
open PySem PySem.W PySem.Calls PyProof.Rows
set_option maxHeartbeats 8000000 in
theorem PySem.Challenge.cw_bothroads_k02_main_runs_as_orders_holds : PySem.Challenge.rw_bothroads_k02_main_runs_as_orders.Holds := by
  w_on; o_law
  refine HandSHeadRun.head_any (r := OpenLaw.row PySem.Challenge.rw_bothroads_k02_main_runs_as_orders) (q := view (OpenLaw.row PySem.Challenge.rw_bothroads_k02_main_runs_as_orders).prog [47]) (H := K02.hk) (ob := K02.ob) (M := 2000) (loose := K02.loose) (d := HandSHeadRun.topDef (OpenLaw.row PySem.Challenge.rw_bothroads_k02_main_runs_as_orders).prog 47) (kwd := []) K02.ob_eq
    (by kernel_rfl) (fun s => by kernel_rfl) K02.run (by kernel_rfl) (by kernel_rfl) (by kernel_rfl) (by rfl) (by first | assumption | decide +kernel) (by decide +kernel) ⟨rfl, rfl, rfl, rfl, rfl, by decide +kernel⟩ ?hw ?hc
  case hw => w_witness2
  case hc =>
    exact _root_.Cl.walk_law (l := PySem.Challenge.rw_bothroads_k02_main_runs_as_orders) (e := ⟨K02.d_law, K02.top 47⟩) (ini := K02.ini) rfl (by decide) (by kernel_rfl) ⟨rfl, by decide, by decide⟩ (by decide +kernel) (by decide +kernel) K02.binds (fun _ => K02.isIni) (by unfold K02.T; simp only [List.mem_cons, true_or, or_true]) rfl rfl K02.says

