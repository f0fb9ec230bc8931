import PyProof.Rows.All
import Wide.All
import OpenK.AllK
import Wide.FinOn
import PySem.Syntax
import HandS.ForMost
import HandS.ForExc
import HandS.Wide
import HandS.Gcd
import HandS.Flow
import KE.KeyNested
import KE.KDictKeyed
import KE.KDictWalk
import KE.SortData
import KE.DataEq
import KE.DataCmp
import KE.DataMinMax
import HandS.TupAny
import HandS.TupMul
import HandS.Style
import HandS.TupLen
import HandS.Conv
import HandS.IsInst
import HandS.SortKw
import KE.KDictPairs
import KE.GoesEnum
import KE.GoesZip
import HandS.Walk
import HandS.DictComp
import HandS.Codes
import OpenK.KMore
import HandS.SetFor
import KE.KStateDown
import HandS.Defaults
import HandS.Head0
import HandS.Head1
import HandS.Head2
import HandS.Head3
import HandS.HeadEnd
import HandS.HeadHook1
import HandS.HeadHook2
import HandS.HeadHook4
import PySem.Challenge.RW_nogapmissed_k99_whole_far
set_option Elab.async false
set_option linter.all false
set_option maxRecDepth 100000
/-! the clean semantics: values as trees, a store of mutable objects, an evaluator over an own small syntax -/
namespace Nog

/-- values -/
inductive D where
  | non | bl (b : Bool) | int (i : Int) | str (s : List Nat) | tup (xs : List D) | ref (l : Nat) | fn (k : Nat) | rol (xs : List D)
  deriving Inhabited

namespace D
mutual
def beq : D → D → Bool
  | .non, .non => true
  | .bl a, .bl b => a == b
  | .int a, .int b => decide (a = b)
  | .str a, .str b => decide (a = b)
  | .tup a, .tup b => beqL a b
  | .ref a, .ref b => a == b
  | .fn a, .fn b => a == b
  | .rol a, .rol b => beqL a b
  | _, _ => false
def beqL : List D → List D → Bool
  | [], [] => true
  | a :: as, b :: bs => beq a b && beqL as bs
  | _, _ => false
end
mutual
theorem beq_self : ∀ a : D, beq a a = true
  | .non => rfl
  | .bl a => by simp [beq]
  | .int a => by simp [beq]
  | .str a => by simp [beq]
  | .tup a => by rw [beq]; exact beqL_self a
  | .ref a => by simp [beq]
  | .fn a => by simp [beq]
  | .rol a => by rw [beq]; exact beqL_self a
theorem beqL_self : ∀ a : List D, beqL a a = true
  | [] => rfl
  | a :: as => by rw [beqL, beq_self a, beqL_self as]; rfl
end
mutual
theorem eq_of_beq : ∀ a b : D, beq a b = true → a = b
  | .non, b, h => by cases b <;> simp [beq] at h <;> rfl
  | .bl a, b, h => by cases b <;> simp [beq] at h; rw [h]
  | .int a, b, h => by cases b <;> simp [beq] at h; rw [h]
  | .str a, b, h => by cases b <;> simp [beq] at h; rw [h]
  | .tup a, b, h => by
    cases b with
    | tup b => rw [beq] at h; rw [eq_of_beqL a b h]
    | _ => simp [beq] at h
  | .ref a, b, h => by cases b <;> simp [beq] at h; rw [h]
  | .fn a, b, h => by cases b <;> simp [beq] at h; rw [h]
  | .rol a, b, h => by
    cases b with
    | rol b => rw [beq] at h; rw [eq_of_beqL a b h]
    | _ => simp [beq] at h
theorem eq_of_beqL : ∀ a b : List D, beqL a b = true → a = b
  | [], [], _ => rfl
  | a :: as, b :: bs, h => by
    rw [beqL, Bool.and_eq_true] at h
    rw [eq_of_beq a b h.1, eq_of_beqL as bs h.2]
  | [], _ :: _, h => by simp [beqL] at h
  | _ :: _, [], h => by simp [beqL] at h
end
instance : DecidableEq D := fun a b => if h : beq a b = true then .isTrue (eq_of_beq a b h) else .isFalse fun e => h (e ▸ beq_self a)

def b2i (b : Bool) : Int := if b then 1 else 0
mutual
/-- == of plain data -/
def eqb : D → D → Bool
  | .non, .non => true
  | .bl a, .bl b => a == b
  | .bl a, .int j => decide (b2i a = j)
  | .int i, .bl b => decide (i = b2i b)
  | .int a, .int b => decide (a = b)
  | .str a, .str b => decide (a = b)
  | .tup a, .tup b => eqbL a b
  | _, _ => false
def eqbL : List D → List D → Bool
  | [], [] => true
  | a :: as, b :: bs => eqb a b && eqbL as bs
  | _, _ => false
end
mutual
/-- no references, no functions -/
def plain : D → Bool
  | .ref _ => false
  | .fn _ => false
  | .rol _ => false
  | .tup xs => plainL xs
  | _ => true
def plainL : List D → Bool
  | [] => true
  | x :: xs => plain x && plainL xs
end
mutual
/-- how deep tuples are nested -/
def depth : D → Nat
  | .tup xs => depthL xs + 1
  | _ => 0
def depthL : List D → Nat
  | [] => 0
  | x :: xs => max (depth x) (depthL xs)
end
mutual
/-- of one make: an order is defined -/
def alike : D → D → Bool
  | .non, .non => true
  | .bl _, .bl _ => true
  | .int _, .int _ => true
  | .str _, .str _ => true
  | .tup xs, .tup ys => alikeL xs ys
  | _, _ => false
def alikeL : List D → List D → Bool
  | x :: xs, y :: ys => alike x y && alikeL xs ys
  | _, _ => true
end
mutual
/-- < of data of one make -/
def ltb : D → D → Bool
  | .bl a, .bl b => decide (b2i a < b2i b)
  | .int a, .int b => decide (a < b)
  | .str a, .str b => decide (a < b)
  | .tup a, .tup b => ltbL a b
  | _, _ => false
def ltbL : List D → List D → Bool
  | _, [] => false
  | [], _ :: _ => true
  | a :: as, b :: bs => if eqb a b then ltbL as bs else ltb a b
end
mutual
/-- what may be a key: no bools -/
def isKey : D → Bool
  | .non => true
  | .int _ => true
  | .str _ => true
  | .tup xs => isKeyL xs
  | _ => false
def isKeyL : List D → Bool
  | [] => true
  | x :: xs => isKey x && isKeyL xs
end
end D

/-- mutable objects -/
inductive O where
  | lst (xs : List D) | dct (lk : Bool) (kvs : List (D × D)) | set (xs : List D) | ins (c : Nat) (fs : List (Nat × D))
  deriving DecidableEq, Inhabited
abbrev Sto := List O
abbrev Env := List (Option D)

/-- an exception: its class, its fields -/
structure X where
  cls : Nat
  args : List D
  deriving DecidableEq, Inhabited

/-- a result -/
inductive Rs (α : Type) where
  | ok (a : α) (S : Sto) | ex (x : X) (S : Sto) | no
  deriving Inhabited
def Rs.bind {α β : Type} (r : Rs α) (k : α → Sto → Rs β) : Rs β :=
  match r with
  | .ok a S => k a S
  | .ex x S => .ex x S
  | .no => .no

/-- the value of an expression before it is stored: a value, a new list (not yet in the store), a range -/
inductive Pv where
  | val (d : D) | fresh (xs : List D) | rng (lo hi : Int) | its (xs : List D) (hs : List (Nat × O))
  deriving Inhabited

def lim : Nat := 16777216

/-- what a statement leads to -/
inductive Sr where
  | nx (σ : Env) (S : Sto) | rt (d : D) (S : Sto) | bk (σ : Env) (S : Sto) | ct (σ : Env) (S : Sto) | ex (x : X) (σ : Env) (S : Sto) | no
  deriving Inhabited

inductive Op where
  | add | sub | mul | fdiv | mod | pow | shl | shr | band | bor
  deriving DecidableEq, Inhabited
inductive Cm where
  | eq | ne | lt | le | gt | ge | inn | notin | is | isnt
  deriving DecidableEq, Inhabited
inductive Ty where
  | int | bool | str | tuple | list | cls (k : Nat)
  deriving DecidableEq, Inhabited
/-- built-in functions -/
inductive Bi where
  | len | sum | max | min | sorted | set | tuple | list | dict | abs | int | str | gcd | lcm
  deriving DecidableEq, Inhabited
/-- methods of built-in types -/
inductive Me where
  | append | extend | pop | reverse | get | dpop | add | join | split | setdefault | index | count | startswith
  deriving DecidableEq, Inhabited
/-- targets -/
inductive Tg where
  | nm (i : Nat) | tp (is : List Nat)
  deriving DecidableEq, Inhabited

def Tg.slots : Tg → List Nat
  | .nm i => [i]
  | .tp is => is
inductive E where
  | var (i : Nat)
  | lit (d : D)
  | tup (es : List E)
  | lst (es : List E)
  | dc0
  | dc1 (k v : E)
  | bin (o : Op) (a b : E)
  | neg (a : E)
  | nt (a : E)
  | cmp (o : Cm) (a b : E)
  | chn (o o' : Cm) (a b c : E)
  | isn (a : E)
  | nisn (a : E)
  | an (a b : E)
  | orr (a b : E)
  | ite (c a b : E)
  | ix (a i : E)
  | sl (a lo hi : E)
  | call (f : Nat) (es : List E)
  | callk (f : Nat) (π : List Nat) (es : List E)
  | rg1 (a : E)
  | rg2 (a b : E)
  | rg3 (a b c : E)
  | b0 (b : Bi)
  | b1 (b : Bi) (a : E)
  | b2 (b : Bi) (a c : E)
  | mxd (b : Bi) (a d : E)
  | isi (a : E) (t : Ty)
  | isi2 (a : E) (t u : Ty)
  | lset (a : E)
  | ms (m : Me) (o : E) (es : List E)
  | ext (o a : E)
  | fld (o : E) (f : Nat)
  | lc (own : List Nat) (elt : E) (tg : Tg) (q : E) (ifs : List E)
  | lc2 (own : List Nat) (elt : E) (tg : Tg) (q : E) (ifs : List E) (tg2 : Tg) (q2 : E) (ifs2 : List E)
  | dc (own : List Nat) (k v : E) (tg : Tg) (q : E) (ifs : List E)
  | sc2 (own : List Nat) (elt : E) (tg : Tg) (q : E) (ifs : List E) (tg2 : Tg) (q2 : E) (ifs2 : List E)
  | enu (a : E)
  | zp (a b : E)
  deriving Inhabited

inductive St where
  | asg (tg : Tg) (e : E)
  | par (i j : Nat) (a b : E)
  | put (o i e : E)
  | fput (o : E) (f : Nat) (e : E)
  | aug (i : Nat) (o : Op) (e : E)
  | augp (a i : E) (o : Op) (e : E)
  | ex (e : E)
  | ret (e : E)
  | retn
  | pas
  | brk
  | cnt
  | iff (c : E) (a b : List St)
  | whl (c : E) (b : List St)
  | fr (tg : Tg) (q : E) (b : List St)
  | rais (c : Nat) (es : List E)
  | tr (b : List St) (c : Nat) (i : Option Nat) (h : List St)
  | thru (b : List St)
  | bad
  deriving Inhabited

abbrev Call := Nat → List D → Sto → Rs D

def fits {α : Type} (xs : List α) : Bool := decide (xs.length ≤ lim)
/-! ### values -/
def Pv.toVal : Pv → Sto → Rs D
  | .val d, S => .ok d S
  | .fresh xs, S => .ok (.ref S.length) (S ++ [.lst xs])
  | _, _ => .no
/-- lo, lo + 1, .. below hi -/
def intsD (lo : Int) : Nat → List D
  | 0 => []
  | n + 1 => .int lo :: intsD (lo + 1) n
def rngL (lo hi : Int) : List D := intsD lo (hi - lo).toNat
/-- the items of what is walked -/
def Pv.items (S : Sto) : Pv → Option (List D)
  | .fresh xs => some xs
  | .rng lo hi => some (rngL lo hi)
  | .its xs _ => some xs
  | .val (.tup xs) => some xs
  | .val (.rol xs) => some xs
  | .val (.ref l) => match S[l]? with
    | some (.lst xs) => some xs
    | some (.dct _ kvs) => some (kvs.map (·.1))
    | _ => none
  | _ => none
/-- the object that must stay as it is while it is walked -/
def Pv.held (S : Sto) : Pv → List (Nat × O)
  | .val (.ref l) => match S[l]? with
    | some o => [(l, o)]
    | none => []
  | .its _ hs => hs
  | _ => []
/-- a dict that is walked is locked -/
def Pv.lock (S : Sto) : Pv → Option (Nat × List (D × D))
  | .val (.ref l) => match S[l]? with
    | some (.dct false kvs) => some (l, kvs)
    | _ => none
  | _ => none
def Pv.lockS (S : Sto) (p : Pv) : Sto := match p.lock S with
  | some (l, kvs) => S.set l (.dct true kvs)
  | none => S
def unl (u : Option (Nat × List (D × D))) (S : Sto) : Option Sto :=
  match u with
  | none => some S
  | some (l, kvs) => if S[l]? = some (.dct true kvs) then some (S.set l (.dct false kvs)) else none
def Rs.unl {α : Type} (u : Option (Nat × List (D × D))) (r : Rs α) : Rs α :=
  match r with
  | .ok a S => (match Nog.unl u S with
    | some S1 => .ok a S1
    | none => .no)
  | .ex x S => (match Nog.unl u S with
    | some S1 => .ex x S1
    | none => .no)
  | .no => .no
/-- no exception leaves a comprehension -/
def Rs.calm {α : Type} (r : Rs α) : Rs α :=
  match r with
  | .ok a S => .ok a S
  | _ => .no
def Sr.unl (u : Option (Nat × List (D × D))) (r : Sr) : Sr :=
  match r with
  | .nx σ S => (match Nog.unl u S with
    | some S1 => .nx σ S1
    | none => .no)
  | .rt d S => (match Nog.unl u S with
    | some S1 => .rt d S1
    | none => .no)
  | .bk σ S => (match Nog.unl u S with
    | some S1 => .bk σ S1
    | none => .no)
  | .ct σ S => (match Nog.unl u S with
    | some S1 => .ct σ S1
    | none => .no)
  | .ex x σ S => (match Nog.unl u S with
    | some S1 => .ex x σ S1
    | none => .no)
  | .no => .no
def heldOk : List (Nat × O) → Sto → Bool
  | [], _ => true
  | (l, o) :: r, S => decide (S[l]? = some o) && heldOk r S
def Pv.truth (S : Sto) : Pv → Option Bool
  | .val .non => some false
  | .val (.bl b) => some b
  | .val (.int i) => some (i != 0)
  | .val (.str s) => if fits s then some (!s.isEmpty) else none
  | .val (.tup xs) => some (!xs.isEmpty)
  | .fresh xs => some (!xs.isEmpty)
  | .val (.ref l) => match S[l]? with
    | some (.lst xs) => some (!xs.isEmpty)
    | _ => none
  | _ => none
/-- a list's items by value -/
def Pv.lstItems (S : Sto) : Pv → Option (List D)
  | .fresh xs => some xs
  | .val (.rol xs) => some xs
  | .val (.ref l) => match S[l]? with
    | some (.lst xs) => some xs
    | _ => none
  | _ => none

/-- .. of a list that may be written -/
def Pv.mutItems (S : Sto) : Pv → Option (List D)
  | .fresh xs => some xs
  | .val (.ref l) => match S[l]? with
    | some (.lst xs) => some xs
    | _ => none
  | _ => none

def Pv.isN : Pv → Bool
  | .val .non => true
  | _ => false
/-! ### operators -/
def mulOk (i j : Int) : Bool := decide (i.natAbs < 2 ^ 64) || decide (j.natAbs < 2 ^ 64) || decide (i.natAbs.log2 + j.natAbs.log2 < 1000000)
def rep {α : Type} (xs : List α) : Nat → List α
  | 0 => []
  | n + 1 => xs ++ rep xs n
def opI (o : Op) (i j : Int) : Option Int :=
  match o with
  | .add => some (i + j)
  | .sub => some (i - j)
  | .mul => if mulOk i j then some (i * j) else none
  | .fdiv => if 0 < j && decide (j.natAbs.log2 < 9000) then some (i / j) else none
  | .mod => if 0 < j then some (i % j) else none
  | .pow => if 0 ≤ j && decide (j ≤ 1000) && decide (i.natAbs.log2 < 500) then some (i ^ j.toNat) else none
  | .shl => if 0 ≤ j && decide (j ≤ 1000000) && decide (i.natAbs < 2 ^ 64) then some (i * 2 ^ j.toNat) else none
  | .shr => if 0 ≤ j then some (i / 2 ^ j.toNat) else none
  | .band => if 0 ≤ i && decide (0 ≤ j) then some ((i.toNat &&& j.toNat : Nat) : Int) else none
  | .bor => none
def opB (o : Op) (S : Sto) : Pv → Pv → Rs Pv
  | .val (.int i), .val (.int j) => match opI o i j with
    | some k => .ok (.val (.int k)) S
    | none => .no
  | .val (.tup xs), .val (.tup ys) => match o with
    | .add => if fits (xs ++ ys) then .ok (.val (.tup (xs ++ ys))) S else .no
    | _ => .no
  | .val (.tup xs), .val (.int j) => match o with
    | .mul => if -1000 ≤ j && decide (j ≤ 1000) && decide (xs.length ≤ 1000) then .ok (.val (.tup (rep xs j.toNat))) S else .no
    | _ => .no
  | .val (.str xs), .val (.str ys) => match o with
    | .add => if fits (xs ++ ys) then .ok (.val (.str (xs ++ ys))) S else .no
    | _ => .no
  | p, q => match o with
    | .add => match p.mutItems S, q.mutItems S with
      | some xs, some ys => if fits (xs ++ ys) then .ok (.fresh (xs ++ ys)) S else .no
      | _, _ => .no
    | .mul => match p.mutItems S, q with
      | some xs, .val (.int j) => if decide (-1000000 ≤ j) && decide (j ≤ 1000000) && decide (xs.length * j.toNat ≤ lim) then .ok (.fresh (rep xs j.toNat)) S else .no
      | _, _ => .no
    | _ => .no
/-- what is equal: plain data; two lists of plain data -/
def eqP (S : Sto) (p q : Pv) : Option Bool :=
  match p.lstItems S, q.lstItems S with
  | some xs, some ys => if D.plainL xs && D.plainL ys && decide (D.depthL xs ≤ 60) && decide (D.depthL ys ≤ 60) then some (D.eqbL xs ys) else none
  | _, _ => match p, q with
    | .val a, .val b => if D.plain a && D.plain b && decide (D.depth a ≤ 60) && decide (D.depth b ≤ 60) then some (D.eqb a b) else none
    | _, _ => none
def okOrd (a b : D) : Bool := D.plain a && D.plain b && D.alike a b && decide (a ≠ .non) && decide (D.depth a ≤ 60) && decide (D.depth b ≤ 60)
def memb (x : D) : List D → Bool
  | [] => false
  | y :: ys => D.eqb y x || memb x ys
/-- what may be a key: a tuple of ints, texts, None, tuples -/
def okKey (k : D) : Bool := (match k with | .tup _ => true | _ => false) && D.isKey k && decide (D.depth k ≤ 8)
def inP (S : Sto) (p q : Pv) : Option Bool :=
  match p, q with
  | .val x, .val (.ref l) => match S[l]? with
    | some (.lst xs) => if D.plain x && D.plainL xs && decide (D.depth x ≤ 60) && decide (D.depthL xs ≤ 60) then some (memb x xs) else none
    | some (.dct _ kvs) => if okKey x then some (kvs.any fun p => decide (p.1 = x)) else none
    | some (.set xs) => if okKey x then some (xs.any fun y => decide (y = x)) else none
    | _ => none
  | .val x, .fresh xs => if D.plain x && D.plainL xs && decide (D.depth x ≤ 60) && decide (D.depthL xs ≤ 60) then some (memb x xs) else none
  | .val x, .val (.tup xs) => if D.plain x && D.plainL xs && decide (D.depth x ≤ 60) && decide (D.depthL xs ≤ 60) then some (memb x xs) else none
  | _, _ => none
def ordP (S : Sto) (f : D → D → Bool) (p q : Pv) : Option Bool :=
  match p, q with
  | .val a, .val b => if okOrd a b then some (f a b) else none
  | _, _ => none
/-- is, of truth values -/
def isP (p q : Pv) : Option Bool :=
  match p, q with
  | .val (.bl a), .val (.bl b) => some (decide (a = b))
  | _, _ => none
def cmP (o : Cm) (S : Sto) (p q : Pv) : Option Bool :=
  match o with
  | .eq => eqP S p q
  | .ne => (eqP S p q).map (!·)
  | .lt => ordP S D.ltb p q
  | .gt => ordP S (fun a b => D.ltb b a) p q
  | .le => ordP S (fun a b => !D.ltb b a) p q
  | .ge => ordP S (fun a b => !D.ltb a b) p q
  | .inn => inP S p q
  | .notin => (inP S p q).map (!·)
  | .is => isP p q
  | .isnt => (isP p q).map (!·)
def blR (S : Sto) : Option Bool → Rs Pv
  | some b => .ok (.val (.bl b)) S
  | none => .no

/-! ### items, slices -/
def ixN (i : Int) (n : Nat) : Option Nat := if 0 ≤ i then (if i < n then some i.toNat else none) else if -(n : Int) ≤ i then some (i + n).toNat else none
def lookD (k : D) : List (D × D) → Option D
  | [] => none
  | (a, v) :: r => if a = k then some v else lookD k r
def putD (k v : D) : List (D × D) → List (D × D)
  | [] => [(k, v)]
  | (a, u) :: r => if a = k then (a, v) :: r else (a, u) :: putD k v r
def dropD (k : D) (kvs : List (D × D)) : List (D × D) := kvs.filter fun p => decide (p.1 ≠ k)
def ixP (S : Sto) (p q : Pv) : Option D :=
  match p, q with
  | .val (.tup xs), .val (.int i) => (ixN i xs.length).bind fun k => xs[k]?
  | .fresh xs, .val (.int i) => (ixN i xs.length).bind fun k => xs[k]?
  | .val (.str s), .val (.int i) => if fits s then (ixN i s.length).bind fun k => (s[k]?).map fun c => .str [c] else none
  | .val (.ref l), .val k => match S[l]? with
    | some (.lst xs) => match k with
      | .int i => (ixN i xs.length).bind fun k => xs[k]?
      | _ => none
    | some (.dct _ kvs) => if okKey k then lookD k kvs else none
    | _ => none
  | _, _ => none
/-- a slice's bound: left out, or any int -/
def cutAt (n : Nat) (dflt : Nat) : Option Int → Nat
  | none => dflt
  | some i => if i < 0 then (i + n).toNat else min i.toNat n
def slicL {α : Type} (xs : List α) (lo hi : Option Int) : List α := (xs.drop (cutAt xs.length 0 lo)).take (cutAt xs.length xs.length hi - cutAt xs.length 0 lo)
def slP (S : Sto) (p : Pv) (lo hi : Option Int) : Rs Pv :=
  match p with
  | .val (.tup xs) => .ok (.val (.tup (slicL xs lo hi))) S
  | _ => match p.lstItems S with
    | some xs => .ok (.fresh (slicL xs lo hi)) S
    | none => .no
/-- a bound that is written must be an int -/
def partOf (e : E) (q : Pv) : Option (Option Int) :=
  match e with
  | .lit .non => some none
  | _ => match q with
    | .val (.int i) => some (some i)
    | _ => none

/-! ### built-in functions -/
/-- sorted, stable -/
def sortD (xs : List D) : List D := xs.mergeSort fun a b => !D.ltb b a
def allAlike (xs : List D) : Bool := xs.all fun x => xs.all fun y => D.alike x y
def isTup : D → Bool
  | .tup _ => true
  | _ => false
def okSort (xs : List D) : Bool := D.plainL xs && allAlike xs && decide (D.depthL xs ≤ 60) && (xs.all isTup || xs.all fun d => !isTup d && decide (d ≠ .non))
def sumI : List D → Option Int
  | [] => some 0
  | .int i :: r => (sumI r).map (i + ·)
  | _ => none
def maxD (x : D) : List D → D
  | [] => x
  | y :: ys => maxD (if D.ltb x y then y else x) ys
def minD (x : D) : List D → D
  | [] => x
  | y :: ys => minD (if D.ltb y x then y else x) ys
def dedup : List D → List D → List D
  | acc, [] => acc
  | acc, x :: xs => if acc.any (fun y => decide (y = x)) then dedup acc xs else dedup (acc ++ [x]) xs
def pairsOf : List D → Option (List (D × D))
  | [] => some []
  | .tup [k, v] :: r => if okKey k then (pairsOf r).map ((k, v) :: ·) else none
  | _ => none
def putAll : List (D × D) → List (D × D) → List (D × D)
  | acc, [] => acc
  | acc, (k, v) :: r => putAll (putD k v acc) r
/-- the items of a tuple or a list -/
def Pv.seqI (S : Sto) : Pv → Option (List D)
  | .val (.tup xs) => some xs
  | p => p.lstItems S
/-- the keys of a dict -/
def Pv.dctI (S : Sto) : Pv → Option (List D)
  | .val (.ref l) => match S[l]? with
    | some (.dct _ kvs) => some (kvs.map (·.1))
    | _ => none
  | _ => none
/-- of a tuple, a list, a dict -/
def Pv.bag (S : Sto) (p : Pv) : Option (List D) :=
  match p.seqI S with
  | some xs => some xs
  | none => p.dctI S
def okMax (xs : List D) : Bool := D.plainL xs && allAlike xs && decide (D.depthL xs ≤ 60) && xs.all fun d => decide (d ≠ .non)
def bi1 (b : Bi) (S : Sto) (p : Pv) : Rs Pv :=
  match b with
  | .len => match p with
    | .val (.str s) => if fits s then .ok (.val (.int s.length)) S else .no
    | _ => match p.bag S with
      | some xs => .ok (.val (.int xs.length)) S
      | none => .no
  | .sum => match (p.lstItems S).bind sumI with
    | some n => .ok (.val (.int n)) S
    | none => .no
  | .max => match p.seqI S with
    | some (x :: xs) => if okMax (x :: xs) then .ok (.val (maxD x xs)) S else .no
    | _ => .no
  | .min => match p.seqI S with
    | some (x :: xs) => if okMax (x :: xs) then .ok (.val (minD x xs)) S else .no
    | _ => .no
  | .sorted => match p.bag S with
    | some xs => if okSort xs then .ok (.fresh (sortD xs)) S else .no
    | none => .no
  | .tuple => match p with
    | .rng lo hi => .ok (.val (.tup (rngL lo hi))) S
    | _ => match p.seqI S with
      | some xs => .ok (.val (.tup xs)) S
      | none => .no
  | .list => match p with
    | .rng lo hi => .ok (.fresh (rngL lo hi)) S
    | _ => match p.bag S with
      | some xs => .ok (.fresh xs) S
      | none => .no
  | .dict => match (p.lstItems S).bind pairsOf with
    | some kvs => .ok (.val (.ref S.length)) (S ++ [.dct false (putAll [] kvs)])
    | none => .no
  | .abs => match p with
    | .val (.int i) => .ok (.val (.int (if i < 0 then -i else i))) S
    | _ => .no
  | .int => match p with
    | .val (.int i) => .ok (.val (.int i)) S
    | .val (.bl b) => .ok (.val (.int (D.b2i b))) S
    | _ => .no
  | _ => .no
def bi2 (b : Bi) (S : Sto) (x y : D) : Rs Pv :=
  match b, x, y with
  | .max, .int i, .int j => .ok (.val (.int (if j > i then j else i))) S
  | .min, .int i, .int j => .ok (.val (.int (if j < i then j else i))) S
  | .gcd, .int i, .int j => .ok (.val (.int (Nat.gcd i.natAbs j.natAbs))) S
  | .lcm, .int i, .int j => if decide (i.natAbs.log2 < 13000) && decide (j.natAbs.log2 < 13000) then .ok (.val (.int (Nat.lcm i.natAbs j.natAbs))) S else .no
  | _, _, _ => .no
def bi0 (b : Bi) (S : Sto) : Rs Pv :=
  match b with
  | .set => .ok (.val (.ref S.length)) (S ++ [.set []])
  | _ => .no
def mxdP (b : Bi) (S : Sto) (p : Pv) (d : D) : Rs Pv :=
  match p.seqI S with
  | some [] => .ok (.val d) S
  | some (x :: xs) => if okMax (x :: xs) then (match b with
    | .max => .ok (.val (maxD x xs)) S
    | .min => .ok (.val (minD x xs)) S
    | _ => .no) else .no
  | none => .no
/-- the class of a value -/
inductive Kd where
  | non | bl | int | str | tup | lst | dct
  deriving DecidableEq, Inhabited
def Pv.kd (S : Sto) : Pv → Option Kd
  | .fresh _ => some .lst
  | .val .non => some .non
  | .val (.bl _) => some .bl
  | .val (.int _) => some .int
  | .val (.str _) => some .str
  | .val (.tup _) => some .tup
  | .val (.ref l) => match S[l]? with
    | some (.lst _) => some .lst
    | some (.dct ..) => some .dct
    | _ => none
  | _ => none
def kdTy : Kd → Ty → Option Bool
  | _, .cls _ => none
  | .bl, .bool => some true
  | .bl, .int => some true
  | .int, .int => some true
  | .str, .str => some true
  | .tup, .tuple => some true
  | .lst, .list => some true
  | _, _ => some false
def isiP (S : Sto) (p : Pv) (t : Ty) : Option Bool := (p.kd S).bind (kdTy · t)
/-- keywords' values in the parameters' order -/
def permD (π : List Nat) (ds : List D) : List D := π.map fun i => ds.getD i .non
def kd2 (k : Kd) (t u : Ty) : Option Bool := match kdTy k t with
  | some true => some true
  | some false => kdTy k u
  | none => none
def isi2P (S : Sto) (p : Pv) (t u : Ty) : Option Bool := (p.kd S).bind (kd2 · t u)

/-- how many different ints a tuple has -/
def isInt : D → Bool
  | .int _ => true
  | _ => false
def lsetP (p : Pv) : Option Nat := match p with
  | .val (.tup xs) => if xs.all isInt && decide (xs.length ≤ 1000) then some (dedup [] xs).length else none
  | _ => none

/-! ### methods -/
def popAt (xs : List D) (k : Nat) : List D := xs.eraseIdx k
def ms (m : Me) (S : Sto) (o : Pv) (as : List D) : Rs Pv :=
  match o with
  | .val (.ref l) => match S[l]? with
    | some (.lst xs) => match m, as with
      | .append, [x] => if xs.length < lim then .ok (.val .non) (S.set l (.lst (xs ++ [x]))) else .no
      | .pop, [] => match xs.getLast? with
        | some x => .ok (.val x) (S.set l (.lst xs.dropLast))
        | none => .no
      | .pop, [.int i] => match ixN i xs.length with
        | some k => match xs[k]? with
          | some x => .ok (.val x) (S.set l (.lst (popAt xs k)))
          | none => .no
        | none => .no
      | .reverse, [] => .ok (.val .non) (S.set l (.lst xs.reverse))
      | _, _ => .no
    | some (.dct lk kvs) => match m, as with
      | .get, [k] => if okKey k then .ok (.val ((lookD k kvs).getD .non)) S else .no
      | .get, [k, d] => if okKey k then .ok (.val ((lookD k kvs).getD d)) S else .no
      | .dpop, [k] => if okKey k && !lk then (match lookD k kvs with
        | some v => .ok (.val v) (S.set l (.dct false (dropD k kvs)))
        | none => .no) else .no
      | _, _ => .no
    | some (.set xs) => match m, as with
      | .add, [k] => if okKey k && decide (xs.length < lim) then .ok (.val .non) (S.set l (.set (if xs.any (fun y => decide (y = k)) then xs else xs ++ [k]))) else .no
      | _, _ => .no
    | _ => .no
  | _ => .no

def Pv.isLs (S : Sto) : Pv → Bool
  | .val (.ref l) => match S[l]? with
    | some (.lst _) => true
    | _ => false
  | _ => false
def Pv.isDc (S : Sto) : Pv → Bool
  | .val (.ref l) => match S[l]? with
    | some (.dct ..) => true
    | _ => false
  | _ => false
/-- a dict's methods -/
def Me.onD : Me → Bool
  | .get => true
  | .dpop => true
  | _ => false
def Me.on (m : Me) (S : Sto) (p : Pv) : Bool := if m.onD then p.isDc S else p.isLs S
def Pv.isRef (l : Nat) : Pv → Bool
  | .val (.ref l2) => l2 == l
  | _ => false
/-- xs.extend(a list), not itself -/
def extP (S : Sto) (o q : Pv) (ys : List D) : Rs Pv :=
  match o with
  | .val (.ref l) => match S[l]? with
    | some (.lst xs) => if fits (xs ++ ys) && !q.isRef l then .ok (.val .non) (S.set l (.lst (xs ++ ys))) else .no
    | _ => .no
  | _ => .no

/-! ### names -/
def wipe (σ : Env) : List Nat → Env
  | [] => σ
  | i :: is => (wipe σ is).set i none
def setAll : List Nat → List D → Env → Option Env
  | [], [], σ => some σ
  | i :: is, d :: ds, σ => setAll is ds (σ.set i (some d))
  | _, _, _ => none
def bindTg (tg : Tg) (d : D) (σ : Env) : Option Env :=
  match tg with
  | .nm i => some (σ.set i (some d))
  | .tp is => match d with
    | .tup ds => setAll is ds σ
    | _ => none

/-! ### comprehensions: what each item gives -/
def lcRun (h : List (Nat × O)) (f : D → Sto → Rs (Option D)) : List D → Sto → Rs (List D)
  | [], S => if heldOk h S then .ok [] S else .no
  | x :: xs, S => if heldOk h S then (f x S).bind fun y S1 => (lcRun h f xs S1).bind fun ys S2 => .ok (match y with | some y => y :: ys | none => ys) S2 else .no
/-- each item gives items -/
def lcRun2 (h : List (Nat × O)) (f : D → Sto → Rs (List D)) : List D → Sto → Rs (List D)
  | [], S => if heldOk h S then .ok [] S else .no
  | x :: xs, S => if heldOk h S then (f x S).bind fun y S1 => (lcRun2 h f xs S1).bind fun ys S2 => .ok (y ++ ys) S2 else .no

/-! ### expressions -/
def zipD : List D → List D → List D
  | x :: xs, y :: ys => .tup [x, y] :: zipD xs ys
  | _, _ => []
def enumD (i : Int) : List D → List D
  | [] => []
  | x :: xs => .tup [.int i, x] :: enumD (i + 1) xs
/-- what a walk goes through, and what must stay meanwhile -/
abbrev Src := List D × List (Nat × O)

def putDP (l : Nat) (k v : D) (S : Sto) : Rs Unit :=
  match S[l]? with
  | some (.lst xs) => match k with
    | .int i => match ixN i xs.length with
      | some j => .ok () (S.set l (.lst (xs.set j v)))
      | none => .no
    | _ => .no
  | some (.dct false kvs) => if okKey k && decide (kvs.length < lim) then .ok () (S.set l (.dct false (putD k v kvs))) else .no
  | _ => .no
def putQ (q r : Pv) (v : D) (S : Sto) : Rs Unit := match q, r with
  | .val (.ref l), .val k => putDP l k v S
  | _, _ => .no
/-- an item, ahead of op= -/
def getQ (S : Sto) : Pv → Pv → Option D
  | .val (.ref l), .val k => ixP S (.val (.ref l)) (.val k)
  | _, _ => none
def augK (o : Op) (x : D) (q : Pv) : Option Int := match x, q with
  | .int m, .val (.int n) => (match o with
    | .add => some (m + n)
    | .sub => some (m - n)
    | _ => none)
  | _, _ => none
def fldP (S : Sto) (p : Pv) (f : Nat) : Option D :=
  match p with
  | .val (.ref l) => match S[l]? with
    | some (.ins _ fs) => fs.lookup f
    | _ => none
  | _ => none

mutual
def ev (C : Call) : E → Env → Sto → Rs Pv
  | .var i, σ, S => match σ[i]? with
    | some (some d) => .ok (.val d) S
    | _ => .no
  | .lit d, _, S => .ok (.val d) S
  | .tup es, σ, S => (evs C es σ S).bind fun ds S1 => .ok (.val (.tup ds)) S1
  | .lst es, σ, S => (evs C es σ S).bind fun ds S1 => .ok (.fresh ds) S1
  | .dc0, _, S => .ok (.val (.ref S.length)) (S ++ [.dct false []])
  | .dc1 k v, σ, S => (ev C k σ S).bind fun p S1 => (ev C v σ S1).bind fun q S2 => (q.toVal S2).bind fun d S3 => match p with
    | .val kd => if okKey kd then .ok (.val (.ref S3.length)) (S3 ++ [.dct false [(kd, d)]]) else .no
    | _ => .no
  | .bin o a b, σ, S => (ev C a σ S).bind fun p S1 => (ev C b σ S1).bind fun q S2 => opB o S2 p q
  | .neg a, σ, S => (ev C a σ S).bind fun p S1 => match p with
    | .val (.int i) => .ok (.val (.int (-i))) S1
    | _ => .no
  | .nt a, σ, S => (ev C a σ S).bind fun p S1 => blR S1 ((p.truth S1).map (!·))
  | .cmp o a b, σ, S => (ev C a σ S).bind fun p S1 => (ev C b σ S1).bind fun q S2 => blR S2 (cmP o S2 p q)
  | .chn o o' a b c, σ, S => (ev C a σ S).bind fun p S1 => (ev C b σ S1).bind fun q S2 => match cmP o S2 p q with
    | some true => (ev C c σ S2).bind fun r S3 => blR S3 (cmP o' S3 q r)
    | some false => .ok (.val (.bl false)) S2
    | none => .no
  | .isn a, σ, S => (ev C a σ S).bind fun p S1 => .ok (.val (.bl p.isN)) S1
  | .nisn a, σ, S => (ev C a σ S).bind fun p S1 => .ok (.val (.bl (!p.isN))) S1
  | .an a b, σ, S => (ev C a σ S).bind fun p S1 => match p.truth S1 with
    | some true => ev C b σ S1
    | some false => .ok p S1
    | none => .no
  | .orr a b, σ, S => (ev C a σ S).bind fun p S1 => match p.truth S1 with
    | some true => .ok p S1
    | some false => ev C b σ S1
    | none => .no
  | .ite c a b, σ, S => (ev C c σ S).bind fun p S1 => match p.truth S1 with
    | some true => ev C a σ S1
    | some false => ev C b σ S1
    | none => .no
  | .ix a i, σ, S => (ev C a σ S).bind fun p S1 => (ev C i σ S1).bind fun q S2 => match ixP S2 p q with
    | some d => .ok (.val d) S2
    | none => .no
  | .sl a lo hi, σ, S => (ev C a σ S).bind fun p S1 => (ev C lo σ S1).bind fun q S2 => match partOf lo q with
    | none => .no
    | some l => (ev C hi σ S2).bind fun r S3 => match partOf hi r with
      | none => .no
      | some h => slP S3 p l h
  | .call f es, σ, S => (evs C es σ S).bind fun ds S1 => (C f ds S1).bind fun d S2 => .ok (.val d) S2
  | .callk f π es, σ, S => (evs C es σ S).bind fun ds S1 => (C f (permD π ds) S1).bind fun d S2 => .ok (.val d) S2
  | .rg1 a, σ, S => (ev C a σ S).bind fun p S1 => match p with
    | .val (.int n) => if decide (-lim ≤ n) && decide (n ≤ lim) then .ok (.rng 0 n) S1 else .no
    | _ => .no
  | .rg2 a b, σ, S => (ev C a σ S).bind fun p S1 => (ev C b σ S1).bind fun q S2 => match p, q with
    | .val (.int m), .val (.int n) => if decide (n - m ≤ lim) && decide (m.natAbs < 2 ^ 62) && decide (n.natAbs < 2 ^ 62) then .ok (.rng m n) S2 else .no
    | _, _ => .no
  | .rg3 a b c, σ, S => .no
  | .b0 b, σ, S => bi0 b S
  | .b1 b a, σ, S => (ev C a σ S).bind fun p S1 => bi1 b S1 p
  | .b2 b a c, σ, S => (ev C a σ S).bind fun p S1 => (ev C c σ S1).bind fun q S2 => match p, q with
    | .val x, .val y => bi2 b S2 x y
    | _, _ => .no
  | .mxd b a d, σ, S => (ev C a σ S).bind fun p S1 => (ev C d σ S1).bind fun q S2 => match q with
    | .val d => mxdP b S2 p d
    | _ => .no
  | .isi a t, σ, S => (ev C a σ S).bind fun p S1 => blR S1 (isiP S1 p t)
  | .isi2 a t u, σ, S => (ev C a σ S).bind fun p S1 => blR S1 (isi2P S1 p t u)
  | .lset a, σ, S => (ev C a σ S).bind fun p S1 => match lsetP p with
    | some n => .ok (.val (.int n)) S1
    | none => .no
  | .ms m o es, σ, S => (ev C o σ S).bind fun p S1 => if m.on S1 p then (evs C es σ S1).bind fun ds S2 => ms m S2 p ds else .no
  | .ext o a, σ, S => (ev C o σ S).bind fun p S1 => if p.isLs S1 then (ev C a σ S1).bind fun q S2 => match q.mutItems S2 with
    | some ys => extP S2 p q ys
    | none => .no
  else .no
  | .fld o f, σ, S => (ev C o σ S).bind fun p S1 => match fldP S1 p f with
    | some d => .ok (.val d) S1
    | none => .no
  | .lc own elt tg q ifs, σ, S => (ev C q σ S).bind fun p S1 => match p.items S1 with
    | some xs => ((lcRun (p.held (p.lockS S1)) (fun x S => match bindTg tg x (wipe σ own) with
        | some σ1 => (evi C ifs σ1 S).bind fun b S2 => if b then (ev C elt σ1 S2).bind fun r S3 => (r.toVal S3).bind fun y S4 => .ok (some y) S4 else .ok none S2
        | none => .no) xs (p.lockS S1)).unl (p.lock S1)).calm.bind fun ys S2 => .ok (.fresh ys) S2
    | none => .no
  | .lc2 own elt tg q ifs tg2 q2 ifs2, σ, S => (ev C q σ S).bind fun p S1 => match p.items S1 with
    | some xs => ((lcRun2 (p.held (p.lockS S1)) (fun x S => match bindTg tg x (wipe σ own) with
        | some σ1 => (evi C ifs σ1 S).bind fun b S2 => if b then (ev C q2 σ1 S2).bind fun p2 S3 => match p2.lock S3 with
            | some _ => .no
            | none => match p2.items S3 with
              | some zs => lcRun (p2.held S3) (fun z S => match bindTg tg2 z (wipe σ1 tg2.slots) with
                | some σ2 => (evi C ifs2 σ2 S).bind fun b S4 => if b then (ev C elt σ2 S4).bind fun r S5 => (r.toVal S5).bind fun y S6 => .ok (some y) S6 else .ok none S4
                | none => .no) zs S3
              | none => .no
          else .ok [] S2
        | none => .no) xs (p.lockS S1)).unl (p.lock S1)).calm.bind fun ys S2 => if fits ys then .ok (.fresh ys) S2 else .no
    | none => .no
  | .dc own k v tg q ifs, σ, S => (ev C q σ S).bind fun p S1 => match p.items S1 with
    | some xs => ((lcRun (p.held (p.lockS S1)) (fun x S => match bindTg tg x (wipe σ own) with
        | some σ1 => (evi C ifs σ1 S).bind fun b S2 => if b then (ev C k σ1 S2).bind fun r S3 => match r with
            | .val kd => (ev C v σ1 S3).bind fun r S4 => (r.toVal S4).bind fun vd S5 => if okKey kd then .ok (some (.tup [kd, vd])) S5 else .no
            | _ => .no
          else .ok none S2
        | none => .no) xs (p.lockS S1)).unl (p.lock S1)).calm.bind fun ys S2 => match pairsOf ys with
          | some kvs => .ok (.val (.ref S2.length)) (S2 ++ [.dct false (putAll [] kvs)])
          | none => .no
    | none => .no
  | .sc2 .., _, _ => .no
  | .enu a, σ, S => (ev C a σ S).bind fun p S1 => match p.seqI S1 with
    | some xs => .ok (.its (enumD 0 xs) (p.held S1)) S1
    | none => .no
  | .zp a b, σ, S => (ev C a σ S).bind fun p S1 => (ev C b σ S1).bind fun q S2 => match p.seqI S2, q.seqI S2 with
    | some xs, some ys => .ok (.its (zipD xs ys) (p.held S2 ++ q.held S2)) S2
    | _, _ => .no
termination_by structural e => e
/-- several, from the left, each stored -/
def evs (C : Call) : List E → Env → Sto → Rs (List D)
  | [], _, S => .ok [] S
  | e :: es, σ, S => (ev C e σ S).bind fun p S1 => (p.toVal S1).bind fun d S2 => (evs C es σ S2).bind fun ds S3 => .ok (d :: ds) S3
termination_by structural es => es
/-- tests, all of which must hold -/
def evi (C : Call) : List E → Env → Sto → Rs Bool
  | [], _, S => .ok true S
  | e :: es, σ, S => (ev C e σ S).bind fun p S1 => match p.truth S1 with
    | some true => evi C es σ S1
    | some false => .ok false S1
    | none => .no
termination_by structural es => es
end

/-! ### statements -/
def Rs.st {α : Type} (r : Rs α) (σ : Env) (k : α → Sto → Sr) : Sr :=
  match r with
  | .ok a S => k a S
  | .ex x S => .ex x σ S
  | .no => .no
/-- a test -/
def evt (C : Call) (e : E) (σ : Env) (S : Sto) : Rs Bool :=
  (ev C e σ S).bind fun p S1 => match p.truth S1 with
    | some b => .ok b S1
    | none => .no
def frRun (hs : List (Nat × O)) (f : D → Env → Sto → Sr) : List D → Env → Sto → Sr
  | [], σ, S => if heldOk hs S then .nx σ S else .no
  | x :: xs, σ, S => if heldOk hs S then (match f x σ S with
    | .nx σ1 S1 => frRun hs f xs σ1 S1
    | .ct σ1 S1 => frRun hs f xs σ1 S1
    | .bk σ1 S1 => .nx σ1 S1
    | r => r) else .no
def wlN (t : Env → Sto → Rs Bool) (b : Env → Sto → Sr) : Nat → Env → Sto → Sr
  | 0, _, _ => .no
  | n + 1, σ, S => match t σ S with
    | .ok true S1 => (match b σ S1 with
      | .nx σ2 S2 => wlN t b n σ2 S2
      | .ct σ2 S2 => wlN t b n σ2 S2
      | .bk σ2 S2 => .nx σ2 S2
      | r => r)
    | .ok false S1 => .nx σ S1
    | .ex x S1 => .ex x σ S1
    | .no => .no
open Classical in
/-- a while loop: what its turns lead to, if they end -/
noncomputable def wl (t : Env → Sto → Rs Bool) (b : Env → Sto → Sr) (σ : Env) (S : Sto) : Sr :=
  if h : ∃ n, wlN t b n σ S ≠ .no then wlN t b (choose h) σ S else .no
/-- whether an exception of class a is caught by a clause of class b; class 0 is the base of all -/
def subX (a b : Nat) : Bool := a == b || b == 0

mutual
noncomputable def evS (C : Call) : St → Env → Sto → Sr
  | .asg tg e, σ, S => (ev C e σ S).st σ fun p S1 => (p.toVal S1).st σ fun d S2 => match bindTg tg d σ with
    | some σ1 => .nx σ1 S2
    | none => .no
  | .par i j a b, σ, S => (ev C a σ S).st σ fun p S1 => (p.toVal S1).st σ fun x S2 => (ev C b σ S2).st σ fun q S3 => (q.toVal S3).st σ fun y S4 => .nx ((σ.set i (some x)).set j (some y)) S4
  | .put o i e, σ, S => (ev C e σ S).st σ fun p S1 => (p.toVal S1).st σ fun v S2 => (ev C o σ S2).st σ fun q S3 => (ev C i σ S3).st σ fun r S4 => (putQ q r v S4).st σ fun _ S5 => .nx σ S5
  | .fput .., _, _ => .no
  | .aug i o e, σ, S => match σ[i]? with
    | some (some x) => (ev C e σ S).st σ fun q S1 => (match augK o x q with
      | some n => Sr.nx (σ.set i (some (.int n))) S1
      | none => .no)
    | _ => .no
  | .augp a i o e, σ, S => (ev C a σ S).st σ fun p S1 => (ev C i σ S1).st σ fun r S2 => match getQ S2 p r with
    | some x => (ev C e σ S2).st σ fun q S3 => (match augK o x q with
      | some n => (putQ p r (.int n) S3).st σ fun _ S4 => Sr.nx σ S4
      | none => .no)
    | none => .no
  | .ex e, σ, S => (ev C e σ S).st σ fun _ S1 => .nx σ S1
  | .ret e, σ, S => (ev C e σ S).st σ fun p S1 => (p.toVal S1).st σ fun d S2 => .rt d S2
  | .retn, _, S => .rt .non S
  | .pas, σ, S => .nx σ S
  | .brk, σ, S => .bk σ S
  | .cnt, σ, S => .ct σ S
  | .iff c a b, σ, S => (evt C c σ S).st σ fun t S1 => if t then evSs C a σ S1 else evSs C b σ S1
  | .whl c b, σ, S => wl (evt C c) (evSs C b) σ S
  | .fr tg q b, σ, S => (ev C q σ S).st σ fun p S1 => match p.items S1 with
    | some xs => (frRun (p.held (p.lockS S1)) (fun x σ S => match bindTg tg x σ with
      | some σ1 => evSs C b σ1 S
      | none => .no) xs σ (p.lockS S1)).unl (p.lock S1)
    | none => .no
  | .rais c es, σ, S => (evs C es σ S).st σ fun ds S1 => .ex ⟨c, ds⟩ σ S1
  | .tr b c i h, σ, S => match evSs C b σ S with
    | .ex x σ1 S1 => if subX x.cls c then (match i with
        | none => evSs C h σ1 S1
        | some _ => .no) else .ex x σ1 S1
    | r => r
  | .thru b, σ, S => evSs C b σ S
  | .bad, _, _ => .no
termination_by structural e => e
noncomputable def evSs (C : Call) : List St → Env → Sto → Sr
  | [], σ, S => .nx σ S
  | s :: ss, σ, S => match evS C s σ S with
    | .nx σ1 S1 => evSs C ss σ1 S1
    | r => r
termination_by structural es => es
end

/-! ### functions -/
inductive Mode where
  | raw | own | gc
  deriving DecidableEq, Inhabited
structure Fn where
  np : Nat
  ns : Nat
  df : List D
  mode : Mode
  body : List St
  deriving Inhabited
mutual
/-- references moved up -/
def D.shift (k : Nat) : D → D
  | .ref l => .ref (l + k)
  | .tup xs => .tup (D.shiftL k xs)
  | d => d
def D.shiftL (k : Nat) : List D → List D
  | [] => []
  | x :: xs => D.shift k x :: D.shiftL k xs
end
mutual
/-- all references lie below -/
def D.under (k : Nat) : D → Bool
  | .ref l => decide (l < k)
  | .tup xs => D.underL k xs
  | _ => true
def D.underL (k : Nat) : List D → Bool
  | [] => true
  | x :: xs => D.under k x && D.underL k xs
end
def O.shift (k : Nat) : O → O
  | .lst xs => .lst (D.shiftL k xs)
  | .dct lk kvs => .dct lk (kvs.map fun p => (D.shift k p.1, D.shift k p.2))
  | .set xs => .set (D.shiftL k xs)
  | .ins c fs => .ins c (fs.map fun p => (p.1, D.shift k p.2))
def O.under (k : Nat) : O → Bool
  | .lst xs => D.underL k xs
  | .dct _ kvs => kvs.all fun p => D.under k p.1 && D.under k p.2
  | .set xs => D.underL k xs
  | .ins _ fs => fs.all fun p => D.under k p.2
def Sr.fin : Sr → Rs D
  | .rt d S => .ok d S
  | .nx _ S => .ok .non S
  | .ex x _ S => .ex x S
  | _ => .no
noncomputable def runFn (C : Call) (f : Fn) (args : List D) (S : Sto) : Rs D :=
  (evSs C f.body (args.map some ++ List.replicate (f.ns - args.length) none) S).fin
/-- the arguments, filled up by defaults -/
def Fn.args (f : Fn) (as : List D) : Option (List D) :=
  if as.length ≤ f.np ∧ f.np - as.length ≤ f.df.length then some (as ++ f.df.drop (f.df.length - (f.np - as.length))) else none
noncomputable def runMode (C : Call) (f : Fn) (as : List D) (S : Sto) : Rs D :=
  match f.mode with
  | .raw => runFn C f as S
  | .own => if D.plainL as then (match runFn C f as [] with
      | .ok d S1 => if D.plain d then .ok d S else .ok (D.shift S.length d) (S ++ S1.map (O.shift S.length))
      | .ex x _ => if D.plainL x.args then .ex x S else .no
      | .no => .no) else .no
  | .gc => match runFn C f as S with
      | .ok d S1 => if D.plain d && decide (S1.take S.length = S) then .ok d S else .no
      | .ex x S1 => .ex x S1
      | .no => .no
noncomputable def callN (P : List Fn) : Nat → Call
  | 0, _, _, _ => .no
  | n + 1, k, as, S => match P[k]? with
    | some f => (match f.args as with
      | some as => runMode (callN P n) f as S
      | none => .no)
    | none => .no

theorem wlN_up {t : Env → Sto → Rs Bool} {b : Env → Sto → Sr} : ∀ {n m : Nat} {σ : Env} {S : Sto}, n ≤ m → wlN t b n σ S ≠ .no → wlN t b m σ S = wlN t b n σ S
  | 0, _, _, _, _, h => absurd rfl h
  | n + 1, 0, _, _, hl, _ => absurd hl (by omega)
  | n + 1, m + 1, σ, S, hl, h => by
    unfold wlN at h ⊢
    split
    · rename_i S1 e
      rw [e] at h
      dsimp only at h
      split
      · rename_i σ2 S2 e2
        rw [e2] at h
        exact wlN_up (by omega) h
      · rename_i σ2 S2 e2
        rw [e2] at h
        exact wlN_up (by omega) h
      · rfl
      · rfl
    · rfl
    · rfl
    · rfl
theorem wl_of {t : Env → Sto → Rs Bool} {b : Env → Sto → Sr} {n : Nat} {σ : Env} {S : Sto} (h : wlN t b n σ S ≠ .no) : wl t b σ S = wlN t b n σ S := by
  have hx : ∃ n, wlN t b n σ S ≠ .no := ⟨n, h⟩
  unfold wl
  rw [dif_pos hx]
  have hc := Classical.choose_spec hx
  rcases Nat.le_total n (Classical.choose hx) with q | q
  · exact wlN_up q h
  · exact (wlN_up q hc).symm
theorem wl_some {t : Env → Sto → Rs Bool} {b : Env → Sto → Sr} {σ : Env} {S : Sto} (h : wl t b σ S ≠ .no) : ∃ n, wl t b σ S = wlN t b n σ S ∧ wlN t b n σ S ≠ .no := by
  unfold wl at h ⊢
  split at h
  · rename_i hx
    exact ⟨Classical.choose hx, by rw [dif_pos hx], Classical.choose_spec hx⟩
  · exact absurd rfl h
end Nog

set_option Elab.async false
set_option linter.all false
set_option maxRecDepth 100000
/-! the link between the store and the abstract heap of the hand layer -/
namespace Nog
open PySem L2

/-- what is fixed: the world, the written part, where the functions stand -/
structure Gx where
  P : Program
  w : World
  K : PySem.W.Frag
  FA : Nat → Option Addr

abbrev toS (s : List Nat) : Str := ⟨s.toArray⟩

/-- a list that nobody writes -/
def SqF (K : PySem.W.Frag) (H : Hp) (a : Addr) (xs : List V) : Prop :=
  (∃ o, H a = some (.frz o (.lst xs))) ∨
    ∃ (o : Obj) (its : Array Value) (n : Nat), K.lookup a = some o ∧ o.cls = .type "list" ∧ o.dict = none ∧ o.data = .seq its n ∧ its.size ≤ sizeLine ∧ Vals xs its.toList
theorem SqF.sq {K : PySem.W.Frag} {H : Hp} {a : Addr} {xs : List V} (h : SqF K H a xs) : SqL K H a xs := h.elim (fun ⟨o, e⟩ => .inl (.inr ⟨o, e⟩)) .inr
mutual
/-- the layer's value v is the value d; θ: where the store's objects stand -/
def Rep (G : Gx) (θ : List Addr) (H : Hp) : D → V → Prop
  | .non, v => v = .non
  | .bl b, v => v = .bl b
  | .int i, v => v = .int i
  | .str s, v => v = .str (toS s)
  | .tup ds, v => ∃ a vs, v = .ref a ∧ SqT G.K H a vs ∧ RepL G θ H ds vs
  | .ref l, v => ∃ a, θ[l]? = some a ∧ v = .ref a
  | .fn k, v => ∃ a, G.FA k = some a ∧ v = .ref a
  | .rol ds, v => ∃ a vs, v = .ref a ∧ SqF G.K H a vs ∧ D.plainL ds = true ∧ RepL G θ H ds vs
def RepL (G : Gx) (θ : List Addr) (H : Hp) : List D → List V → Prop
  | [], vs => vs = []
  | d :: ds, vs => ∃ v r, vs = v :: r ∧ Rep G θ H d v ∧ RepL G θ H ds r
end

/-- the store grew, what was tracked and is none of its objects stands, tuples stand -/
structure Ext0 (G : Gx) (θ : List Addr) (H : Hp) (θ' : List Addr) (H' : Hp) : Prop where
  pre : ∀ (l : Nat) (a : Addr), θ[l]? = some a → θ'[l]? = some a
  tp : ∀ a vs, SqT G.K H a vs → SqT G.K H' a vs
  fz : ∀ a vs, SqF G.K H a vs → SqF G.K H' a vs
structure Ext (G : Gx) (θ : List Addr) (H : Hp) (θ' : List Addr) (H' : Hp) : Prop extends Ext0 G θ H θ' H' where
  fr : ∀ b o, H b = some o → b ∉ θ → H' b = some o
  nw : ∀ b, b ∈ θ' → b ∈ θ ∨ H b = none
  up : ∀ b, H' b = none → H b = none
  fx : ∀ b o u, H b = some (.frz o u) → H' b = some (.frz o u)

section
variable {G : Gx} {θ θ1 θ2 : List Addr} {H H1 H2 : Hp}
theorem mem_ix {θ : List Addr} {a : Addr} : a ∈ θ ↔ ∃ l : Nat, θ[l]? = some a := by
  rw [List.mem_iff_getElem?]
theorem Ext.mem (e : Ext G θ H θ1 H1) {b : Addr} (h : b ∈ θ) : b ∈ θ1 := by
  obtain ⟨l, hl⟩ := mem_ix.mp h
  exact mem_ix.mpr ⟨l, e.pre l b hl⟩
theorem Ext.refl : Ext G θ H θ H := ⟨⟨fun _ _ h => h, fun _ _ h => h, fun _ _ h => h⟩, fun _ _ h _ => h, fun _ h => .inl h, fun _ h => h, fun _ _ _ h => h⟩
theorem Ext.trans (a : Ext G θ H θ1 H1) (b : Ext G θ1 H1 θ2 H2) : Ext G θ H θ2 H2 where
  pre := fun l x h => b.pre l x (a.pre l x h)
  fr := fun c o h n => b.fr c o (a.fr c o h n) fun z => (a.nw c z).elim n fun q => by rw [q] at h; cases h
  nw := fun c h => (b.nw c h).elim (a.nw c) fun q => .inr (a.up c q)
  tp := fun c vs h => b.tp c vs (a.tp c vs h)
  fz := fun c vs h => b.fz c vs (a.fz c vs h)
  up := fun c h => a.up c (b.up c h)
  fx := fun c o u h => b.fx c o u (a.fx c o u h)
mutual
theorem Rep.ext0 (e : Ext0 G θ H θ1 H1) : ∀ {d : D} {v : V}, Rep G θ H d v → Rep G θ1 H1 d v
  | .non, _, h => by rw [Rep] at h ⊢; exact h
  | .bl _, _, h => by rw [Rep] at h ⊢; exact h
  | .int _, _, h => by rw [Rep] at h ⊢; exact h
  | .str _, _, h => by rw [Rep] at h ⊢; exact h
  | .tup ds, _, h => by
    rw [Rep] at h ⊢
    obtain ⟨a, vs, h1, h2, h3⟩ := h
    exact ⟨a, vs, h1, e.tp a vs h2, RepL.ext0 e h3⟩
  | .ref l, _, h => by
    rw [Rep] at h ⊢
    obtain ⟨a, h1, h2⟩ := h
    exact ⟨a, e.pre l a h1, h2⟩
  | .fn _, _, h => by rw [Rep] at h ⊢; exact h
  | .rol ds, _, h => by
    rw [Rep] at h ⊢
    obtain ⟨a, vs, h1, h2, h3, h4⟩ := h
    exact ⟨a, vs, h1, e.fz a vs h2, h3, RepL.ext0 e h4⟩
theorem RepL.ext0 (e : Ext0 G θ H θ1 H1) : ∀ {ds : List D} {vs : List V}, RepL G θ H ds vs → RepL G θ1 H1 ds vs
  | [], _, h => by rw [RepL] at h ⊢; exact h
  | d :: ds, _, h => by
    rw [RepL] at h ⊢
    obtain ⟨v, r, h1, h2, h3⟩ := h
    exact ⟨v, r, h1, Rep.ext0 e h2, RepL.ext0 e h3⟩
end
theorem Rep.ext (e : Ext G θ H θ1 H1) {d : D} {v : V} (h : Rep G θ H d v) : Rep G θ1 H1 d v := h.ext0 e.toExt0
theorem RepL.ext (e : Ext G θ H θ1 H1) {ds : List D} {vs : List V} (h : RepL G θ H ds vs) : RepL G θ1 H1 ds vs := h.ext0 e.toExt0
theorem RepL.nil : RepL G θ H [] [] := by rw [RepL]
theorem RepL.cons {d : D} {ds : List D} {v : V} {vs : List V} (h : Rep G θ H d v) (r : RepL G θ H ds vs) : RepL G θ H (d :: ds) (v :: vs) := by
  rw [RepL]; exact ⟨v, vs, rfl, h, r⟩
theorem RepL.nil_inv {vs : List V} (h : RepL G θ H [] vs) : vs = [] := by rw [RepL] at h; exact h
theorem RepL.cons_inv {d : D} {ds : List D} {vs : List V} (h : RepL G θ H (d :: ds) vs) : ∃ v r, vs = v :: r ∧ Rep G θ H d v ∧ RepL G θ H ds r := by rw [RepL] at h; exact h
theorem RepL.length : ∀ {ds : List D} {vs : List V}, RepL G θ H ds vs → vs.length = ds.length
  | [], _, h => by rw [h.nil_inv]; rfl
  | d :: ds, _, h => by
    obtain ⟨v, r, rfl, _, h2⟩ := h.cons_inv
    rw [List.length_cons, List.length_cons, RepL.length h2]
theorem RepL.get : ∀ {ds : List D} {vs : List V} {i : Nat} {d : D}, RepL G θ H ds vs → ds[i]? = some d → ∃ v, vs[i]? = some v ∧ Rep G θ H d v
  | [], _, _, _, _, e => by simp at e
  | d :: ds, _, 0, _, h, e => by
    obtain ⟨v, r, rfl, h1, _⟩ := h.cons_inv
    simp at e
    subst e
    exact ⟨v, rfl, h1⟩
  | d :: ds, _, i + 1, _, h, e => by
    obtain ⟨v, r, rfl, _, h2⟩ := h.cons_inv
    obtain ⟨u, h3, h4⟩ := RepL.get (i := i) h2 (by simpa using e)
    exact ⟨u, by simpa using h3, h4⟩
theorem RepL.get' : ∀ {ds : List D} {vs : List V} {i : Nat} {v : V}, RepL G θ H ds vs → vs[i]? = some v → ∃ d, ds[i]? = some d ∧ Rep G θ H d v
  | [], _, _, _, h, e => by rw [h.nil_inv] at e; simp at e
  | d :: ds, _, 0, _, h, e => by
    obtain ⟨v, r, rfl, h1, _⟩ := h.cons_inv
    simp at e
    subst e
    exact ⟨d, rfl, h1⟩
  | d :: ds, _, i + 1, _, h, e => by
    obtain ⟨v, r, rfl, _, h2⟩ := h.cons_inv
    obtain ⟨u, h3, h4⟩ := RepL.get' (i := i) h2 (by simpa using e)
    exact ⟨u, by simpa using h3, h4⟩
theorem RepL.append : ∀ {ds es : List D} {vs us : List V}, RepL G θ H ds vs → RepL G θ H es us → RepL G θ H (ds ++ es) (vs ++ us)
  | [], _, _, _, h, h' => by rw [h.nil_inv]; exact h'
  | d :: ds, _, _, _, h, h' => by
    obtain ⟨v, r, rfl, h1, h2⟩ := h.cons_inv
    exact .cons h1 (RepL.append h2 h')
theorem RepL.append_inv : ∀ {ds es : List D} {ws : List V}, RepL G θ H (ds ++ es) ws → ∃ vs us, ws = vs ++ us ∧ RepL G θ H ds vs ∧ RepL G θ H es us
  | [], _, ws, h => ⟨[], ws, rfl, .nil, h⟩
  | d :: ds, _, _, h => by
    obtain ⟨v, r, rfl, h1, h2⟩ := RepL.cons_inv (show RepL G θ H (d :: (ds ++ _)) _ from h)
    obtain ⟨vs, us, rfl, h3, h4⟩ := RepL.append_inv h2
    exact ⟨v :: vs, us, rfl, .cons h1 h3, h4⟩
theorem RepL.take (n : Nat) : ∀ {ds : List D} {vs : List V}, RepL G θ H ds vs → RepL G θ H (ds.take n) (vs.take n) := by
  induction n with
  | zero => intro ds vs _; simpa using RepL.nil
  | succ n ih =>
    intro ds vs h
    cases ds with
    | nil => rw [h.nil_inv]; simpa using RepL.nil
    | cons d ds =>
      obtain ⟨v, r, rfl, h1, h2⟩ := h.cons_inv
      exact .cons h1 (ih h2)
theorem RepL.drop (n : Nat) : ∀ {ds : List D} {vs : List V}, RepL G θ H ds vs → RepL G θ H (ds.drop n) (vs.drop n) := by
  induction n with
  | zero => intro ds vs h; exact h
  | succ n ih =>
    intro ds vs h
    cases ds with
    | nil => rw [h.nil_inv]; simpa using RepL.nil
    | cons d ds =>
      obtain ⟨v, r, rfl, h1, h2⟩ := h.cons_inv
      exact ih h2
theorem RepL.set {d : D} {v : V} (r : Rep G θ H d v) : ∀ {ds : List D} {vs : List V} (i : Nat), RepL G θ H ds vs → RepL G θ H (ds.set i d) (vs.set i v)
  | [], _, _, h => by rw [h.nil_inv]; exact .nil
  | _ :: _, _, 0, h => by
    obtain ⟨_, _, rfl, _, h2⟩ := h.cons_inv
    exact .cons r h2
  | _ :: _, _, i + 1, h => by
    obtain ⟨_, _, rfl, h1, h2⟩ := h.cons_inv
    exact .cons h1 (RepL.set r i h2)
theorem RepL.reverse : ∀ {ds : List D} {vs : List V}, RepL G θ H ds vs → RepL G θ H ds.reverse vs.reverse
  | [], _, h => by rw [h.nil_inv]; exact .nil
  | d :: ds, _, h => by
    obtain ⟨v, r, rfl, h1, h2⟩ := h.cons_inv
    rw [List.reverse_cons, List.reverse_cons]
    exact (RepL.reverse h2).append (.cons h1 .nil)
theorem RepL.eraseIdx : ∀ {ds : List D} {vs : List V} (i : Nat), RepL G θ H ds vs → RepL G θ H (ds.eraseIdx i) (vs.eraseIdx i)
  | [], _, _, h => by rw [h.nil_inv]; exact .nil
  | _ :: _, _, 0, h => by
    obtain ⟨_, _, rfl, _, h2⟩ := h.cons_inv
    exact h2
  | _ :: _, _, i + 1, h => by
    obtain ⟨_, _, rfl, h1, h2⟩ := h.cons_inv
    exact .cons h1 (RepL.eraseIdx i h2)
end

/-! ### keys, dicts -/
mutual
/-- a key's name in the library -/
def D.nk : D → NestedKey
  | .int i => .num i
  | .str s => .text (toS s)
  | .tup xs => .tup (D.nkL xs)
  | _ => .none
def D.nkL : List D → List NestedKey
  | [] => []
  | x :: xs => D.nk x :: D.nkL xs
end
/-- the raw entries of a dict whose keys are tuples: the key's name, its address, its value -/
abbrev KE3 := NestedKey × Addr × V
/-- a dict stands at a, with these entries (where the keys' tuples stand is told; that they are these keys is told elsewhere) -/
def DictAt (w : World) (a : Addr) (es : List KE3) (h : Heap) : Prop :=
  es.length ≤ sizeLine ∧ (a == sysModules) = false ∧ ∃ (o : Obj) (ds : Array DictEntry) (ep : Nat) (us : List Value), h.get? a = some o ∧ o.ExactDict ∧ o.data = .dict ds ep ∧
    Paired (fun (p : KE3) (u : Value) => RelV p.2.2 u) es us ∧ ds.toList = (es.zip us).map fun q => (⟨NestedKey.hash w q.1.1, .ref q.1.2.1, q.2⟩ : DictEntry)

/-- .. locked (while it is walked) or not -/
def DctH (w : World) (H : Hp) (a : Addr) (es : List KE3) : Bool → Prop
  | false => H a = some (.ext (DictAt w a es))
  | true => ∃ o, H a = some (.frz o (.ext (DictAt w a es)))
def kD : L2.Key → D
  | .inl i => .int i
  | .inr x => .str x.cps.toList
/-- entries of a dict with int and text keys -/
inductive KvR (G : Gx) (θ : List Addr) (H : Hp) : List (D × D) → List (L2.Key × V) → Prop
  | nil : KvR G θ H [] []
  | cons {k : L2.Key} {d : D} {v : V} {r : List (D × D)} {r' : List (L2.Key × V)} : Rep G θ H d v → KvR G θ H r r' → KvR G θ H ((kD k, d) :: r) ((k, v) :: r')
/-- entries of a dict with tuple keys -/
inductive KtR (G : Gx) (θ : List Addr) (H : Hp) : List (D × D) → List KE3 → Prop
  | nil : KtR G θ H [] []
  | cons {ks : List D} {d : D} {a : Addr} {v : V} {r : List (D × D)} {r' : List KE3} : okKey (.tup ks) = true → Rep G θ H (.tup ks) (.ref a) → Rep G θ H d v → KtR G θ H r r' → KtR G θ H ((.tup ks, d) :: r) ((D.nk (.tup ks), a, v) :: r')
/-- the object at a is o -/
def ObR (G : Gx) (θ : List Addr) (H : Hp) (a : Addr) : O → Prop
  | .lst ds => ∃ vs, H a = some (.lst vs) ∧ RepL G θ H ds vs
  | .dct lk kvs => (kvs.map (·.1)).Nodup ∧ ∃ es, DctH G.w H a es lk ∧ KtR G θ H kvs es
  | .set _ => False
  | .ins _ _ => False
structure Sim (G : Gx) (θ : List Addr) (S : Sto) (H : Hp) : Prop where
  len : θ.length = S.length
  nd : θ.Nodup
  ob : ∀ (l : Nat) (a : Addr) (o : O), θ[l]? = some a → S[l]? = some o → ObR G θ H a o

section
variable {G : Gx} {θ θ1 θ2 : List Addr} {H H1 H2 : Hp} {S S1 S2 : Sto}
theorem KvR.ext (e : Ext G θ H θ1 H1) : ∀ {kvs : List (D × D)} {ks : List (L2.Key × V)}, KvR G θ H kvs ks → KvR G θ1 H1 kvs ks
  | _, _, .nil => .nil
  | _, _, .cons h r => .cons (h.ext e) (r.ext e)
theorem KtR.ext0 (e : Ext0 G θ H θ1 H1) : ∀ {kvs : List (D × D)} {ks : List KE3}, KtR G θ H kvs ks → KtR G θ1 H1 kvs ks
  | _, _, .nil => .nil
  | _, _, .cons h0 h h' r => .cons h0 (h.ext0 e) (h'.ext0 e) (r.ext0 e)
theorem KtR.ext (e : Ext G θ H θ1 H1) {kvs : List (D × D)} {ks : List KE3} (h : KtR G θ H kvs ks) : KtR G θ1 H1 kvs ks := h.ext0 e.toExt0
theorem DctH.keep {w : World} {a : Addr} {es : List KE3} {lk : Bool} (hs : ∀ o, H a = some o → H1 a = some o) (h : DctH w H a es lk) : DctH w H1 a es lk := by
  cases lk with
  | false => exact hs _ h
  | true => obtain ⟨o, h⟩ := h; exact ⟨o, hs _ h⟩
theorem DctH.there {w : World} {a : Addr} {es : List KE3} {lk : Bool} (h : DctH w H a es lk) : H a = some (.ext (DictAt w a es)) ∨ ∃ o, H a = some (.frz o (.ext (DictAt w a es))) := by
  cases lk with
  | false => exact .inl h
  | true => exact .inr h
/-- where the object itself stands as it stood -/
theorem ObR.ext0 (e : Ext0 G θ H θ1 H1) {a : Addr} (hs : ∀ o, H a = some o → H1 a = some o) {o : O} (h : ObR G θ H a o) : ObR G θ1 H1 a o := by
  cases o with
  | lst ds => obtain ⟨vs, h1, h2⟩ := h; exact ⟨vs, hs _ h1, h2.ext0 e⟩
  | dct lk kvs =>
    obtain ⟨hn, es, h1, h2⟩ := h
    exact ⟨hn, es, h1.keep hs, h2.ext0 e⟩
  | set _ => exact h.elim
  | ins _ _ => exact h.elim
theorem ObR.ext (e : Ext G θ H θ1 H1) {a : Addr} (hs : ∀ o, H a = some o → H1 a = some o) {o : O} (h : ObR G θ H a o) : ObR G θ1 H1 a o := h.ext0 e.toExt0 hs
theorem ObR.there {a : Addr} {o : O} (h : ObR G θ H a o) : ∃ u, H a = some u ∧ ((∃ vs, u = .lst vs) ∨ (∃ es, u = .ext (DictAt G.w a es)) ∨ ∃ o es, u = .frz o (.ext (DictAt G.w a es))) := by
  cases o with
  | lst ds => obtain ⟨vs, h1, h2⟩ := h; exact ⟨_, h1, .inl ⟨vs, rfl⟩⟩
  | dct lk kvs =>
    obtain ⟨hn, es, h1, h2⟩ := h
    rcases h1.there with h1 | ⟨o, h1⟩
    · exact ⟨_, h1, .inr (.inl ⟨es, rfl⟩)⟩
    · exact ⟨_, h1, .inr (.inr ⟨o, es, rfl⟩)⟩
  | set _ => exact h.elim
  | ins _ _ => exact h.elim
theorem Sim.there (m : Sim G θ S H) {a : Addr} (ha : a ∈ θ) : ∃ u, H a = some u ∧ ((∃ vs, u = .lst vs) ∨ (∃ es, u = .ext (DictAt G.w a es)) ∨ ∃ o es, u = .frz o (.ext (DictAt G.w a es))) := by
  obtain ⟨l, hl⟩ := mem_ix.mp ha
  exact (m.ob l a _ hl (List.getElem?_eq_getElem (by rw [← m.len]; exact (List.getElem?_eq_some_iff.mp hl).1))).there
theorem Sim.free (m : Sim G θ S H) {a : Addr} (ha : H a = none) : a ∉ θ := fun h => by
  obtain ⟨u, hu, _⟩ := m.there h
  rw [ha] at hu; cases hu
theorem Sim.at (m : Sim G θ S H) {l : Nat} {o : O} (e : S[l]? = some o) : ∃ a, θ[l]? = some a ∧ ObR G θ H a o := by
  have hl : l < θ.length := by rw [m.len]; exact (List.getElem?_eq_some_iff.mp e).1
  exact ⟨θ[l], List.getElem?_eq_getElem hl, m.ob l _ o (List.getElem?_eq_getElem hl) e⟩
/-- nothing of the store's changed -/
theorem Sim.ext (m : Sim G θ S H) (e : Ext G θ H θ H1) (hs : ∀ a ∈ θ, ∀ o, H a = some o → H1 a = some o) : Sim G θ S H1 :=
  ⟨m.len, m.nd, fun l a o h1 h2 => (m.ob l a o h1 h2).ext e (hs a (mem_ix.mpr ⟨l, h1⟩))⟩
theorem SqT.upd {K : PySem.W.Frag} {p a : Addr} {o : HO} {vs : List V} (h : SqT K H a vs) (hp : ∀ u, H p = some u → ¬ (u = .tup vs ∨ ∃ ob, u = .frz ob (.tup vs))) : SqT K (upd H p o) a vs := by
  rcases h with (h | ⟨ob, h⟩) | h
  · exact .inl (.inl (by rw [upd_ne (fun e => by subst e; exact hp _ h (.inl rfl))]; exact h))
  · exact .inl (.inr ⟨ob, by rw [upd_ne (fun e => by subst e; exact hp _ h (.inr ⟨ob, rfl⟩))]; exact h⟩)
  · exact .inr h
theorem SqF.upd {K : PySem.W.Frag} {p a : Addr} {o : HO} {vs : List V} (h : SqF K H a vs) (hp : ∀ u, H p = some u → ¬ ∃ ob, u = .frz ob (.lst vs)) : SqF K (upd H p o) a vs := by
  rcases h with ⟨ob, h⟩ | h
  · exact .inl ⟨ob, by rw [upd_ne (fun e => by subst e; exact hp _ h ⟨ob, rfl⟩)]; exact h⟩
  · exact .inr h
/-- a new thing at p that the store does not know -/
theorem Ext.new {p : Addr} {o : HO} (hp : H p = none) : Ext G θ H θ (upd H p o) where
  pre := fun _ _ h => h
  fr := fun b u h _ => by rw [upd_ne (ne_of_none h hp)]; exact h
  nw := fun _ h => .inl h
  tp := fun a vs h => SqT.upd h fun u e => by rw [hp] at e; cases e
  fz := fun a vs h => SqF.upd h fun u e => by rw [hp] at e; cases e
  up := fun b h => by
    by_cases e : b = p
    · subst e; exact hp
    · rw [upd_ne e] at h; exact h
  fx := fun b u v h => by rw [upd_ne (ne_of_none h hp)]; exact h
theorem Sim.new {p : Addr} {o : HO} (m : Sim G θ S H) (hp : H p = none) : Sim G θ S (upd H p o) :=
  m.ext (.new hp) fun a _ u h => by rw [upd_ne (ne_of_none h hp)]; exact h
/-- an untracked object joins the store -/
theorem Ext.join {a : Addr} (ha : H a = none) (e : Ext G θ H θ1 H1) : Ext G θ H (θ1 ++ [a]) H1 where
  pre := fun l b h => by
    have h := e.pre l b h
    rw [List.getElem?_append_left (List.getElem?_eq_some_iff.mp h).1]; exact h
  fr := e.fr
  nw := fun b h => by
    rcases List.mem_append.mp h with h | h
    · exact e.nw b h
    · rw [List.mem_singleton.mp h]; exact .inr ha
  tp := e.tp
  fz := e.fz
  up := e.up
  fx := e.fx
theorem pre_join {a : Addr} : ∀ (l : Nat) (b : Addr), θ[l]? = some b → (θ ++ [a])[l]? = some b := fun l b h => by
  rw [List.getElem?_append_left (List.getElem?_eq_some_iff.mp h).1]; exact h
/-- Rep looks at the store's places alone, and at the tuples -/
theorem Ext.wide {a : Addr} : Ext G (θ ++ [a]) H (θ ++ [a]) H := Ext.refl
mutual
theorem Rep.join {a : Addr} : ∀ {d : D} {v : V}, Rep G θ H d v → Rep G (θ ++ [a]) H d v
  | .non, _, h => by rw [Rep] at h ⊢; exact h
  | .bl _, _, h => by rw [Rep] at h ⊢; exact h
  | .int _, _, h => by rw [Rep] at h ⊢; exact h
  | .str _, _, h => by rw [Rep] at h ⊢; exact h
  | .tup ds, _, h => by
    rw [Rep] at h ⊢
    obtain ⟨a, vs, h1, h2, h3⟩ := h
    exact ⟨a, vs, h1, h2, RepL.join h3⟩
  | .ref l, _, h => by
    rw [Rep] at h ⊢
    obtain ⟨a, h1, h2⟩ := h
    exact ⟨a, pre_join l a h1, h2⟩
  | .fn _, _, h => by rw [Rep] at h ⊢; exact h
  | .rol ds, _, h => by
    rw [Rep] at h ⊢
    obtain ⟨a, vs, h1, h2, h3, h4⟩ := h
    exact ⟨a, vs, h1, h2, h3, RepL.join h4⟩
theorem RepL.join {a : Addr} : ∀ {ds : List D} {vs : List V}, RepL G θ H ds vs → RepL G (θ ++ [a]) H ds vs
  | [], _, h => by rw [RepL] at h ⊢; exact h
  | d :: ds, _, h => by
    rw [RepL] at h ⊢
    obtain ⟨v, r, h1, h2, h3⟩ := h
    exact ⟨v, r, h1, Rep.join h2, RepL.join h3⟩
end
theorem KvR.join {a : Addr} : ∀ {kvs : List (D × D)} {ks : List (L2.Key × V)}, KvR G θ H kvs ks → KvR G (θ ++ [a]) H kvs ks
  | _, _, .nil => .nil
  | _, _, .cons h r => .cons h.join r.join
theorem KtR.join {a : Addr} : ∀ {kvs : List (D × D)} {ks : List KE3}, KtR G θ H kvs ks → KtR G (θ ++ [a]) H kvs ks
  | _, _, .nil => .nil
  | _, _, .cons h0 h h' r => .cons h0 h.join h'.join r.join
theorem ObR.join {a b : Addr} {o : O} (h : ObR G θ H b o) : ObR G (θ ++ [a]) H b o := by
  cases o with
  | lst ds => obtain ⟨vs, h1, h2⟩ := h; exact ⟨vs, h1, h2.join⟩
  | dct lk kvs =>
    obtain ⟨hn, es, h1, h2⟩ := h
    exact ⟨hn, es, h1, h2.join⟩
  | set _ => exact h.elim
  | ins _ _ => exact h.elim
theorem Sim.join {a : Addr} {o : O} (m : Sim G θ S H) (ha : a ∉ θ) (ho : ObR G θ H a o) : Sim G (θ ++ [a]) (S ++ [o]) H where
  len := by simp [m.len]
  nd := by
    rw [List.nodup_append]
    exact ⟨m.nd, by simp, fun x hx y hy e => by rw [List.mem_singleton.mp hy] at e; subst e; exact ha hx⟩
  ob := fun l b u h1 h2 => by
    by_cases hl : l < θ.length
    · rw [List.getElem?_append_left hl] at h1
      rw [List.getElem?_append_left (by rw [← m.len]; exact hl)] at h2
      exact (m.ob l b u h1 h2).join
    · have e : l = θ.length := by
        have := (List.getElem?_eq_some_iff.mp h1).1
        simp at this
        omega
      subst e
      rw [List.getElem?_append_right (Nat.le_refl _), Nat.sub_self] at h1
      rw [m.len, List.getElem?_append_right (Nat.le_refl _), Nat.sub_self] at h2
      simp at h1 h2
      subst h1 h2
      exact ho.join
/-- the object at l is written -/
theorem Ext.write {a : Addr} {o : HO} (ha : a ∈ θ) (hm : ∀ vs, H a ≠ some (.tup vs)) (hx : ∀ o u, H a ≠ some (.frz o u)) : Ext G θ H θ (upd H a o) where
  pre := fun _ _ h => h
  fr := fun b u h n => by rw [upd_ne (fun e => by subst e; exact n ha)]; exact h
  nw := fun _ h => .inl h
  tp := fun b vs h => SqT.upd h fun u e q => by
    rcases q with rfl | ⟨ob, rfl⟩
    · exact hm _ e
    · exact hx _ _ e
  fz := fun b vs h => SqF.upd h fun u e q => by
    obtain ⟨ob, rfl⟩ := q
    exact hx _ _ e
  up := fun b h => by
    by_cases e : b = a
    · subst e; rw [upd_same] at h; cases h
    · rw [upd_ne e] at h; exact h
  fx := fun b u v h => by rw [upd_ne (fun e => by subst e; exact hx _ _ h)]; exact h
/-- a dict that was locked meanwhile is unlocked -/
theorem Ext.unl (e : Ext G θ H θ1 H1) {a : Addr} {o : Obj} {φ : Heap → Prop} {u : HO} (h1 : H1 a = some (.frz o (.ext φ))) (h0 : ∀ o u, H a ≠ some (.frz o u)) (ha : a ∈ θ1) : Ext G θ H θ1 (upd H1 a u) where
  pre := e.pre
  fr := fun b v h n => by
    rw [upd_ne (fun z => by subst z; exact (e.nw b ha).elim n fun q => by rw [q] at h; cases h)]
    exact e.fr b v h n
  nw := e.nw
  tp := fun b vs h => SqT.upd (e.tp b vs h) fun v ev q => by
    rw [h1] at ev
    cases ev
    rcases q with q | ⟨ob, q⟩ <;> cases q
  fz := fun b vs h => SqF.upd (e.fz b vs h) fun v ev q => by
    rw [h1] at ev
    cases ev
    obtain ⟨ob, q⟩ := q
    cases q
  up := fun b h => by
    by_cases z : b = a
    · subst z; rw [upd_same] at h; cases h
    · rw [upd_ne z] at h; exact e.up b h
  fx := fun b o' v h => by
    rw [upd_ne (fun z => by subst z; exact h0 _ _ h)]
    exact e.fx b o' v h
theorem Sim.write0 {l : Nat} {a : Addr} {ho : HO} {o : O} (m : Sim G θ S H) (hl : θ[l]? = some a) (e : Ext0 G θ H θ (upd H a ho)) (h : ObR G θ (upd H a ho) a o) : Sim G θ (S.set l o) (upd H a ho) where
  len := by rw [List.length_set]; exact m.len
  nd := m.nd
  ob := fun k b u h1 h2 => by
    by_cases q : k = l
    · subst q
      rw [hl] at h1; cases h1
      have hk : k < S.length := by rw [← m.len]; exact (List.getElem?_eq_some_iff.mp hl).1
      rw [List.getElem?_set_self hk] at h2
      cases h2
      exact h
    · rw [List.getElem?_set_ne (Ne.symm q)] at h2
      have hba : b ≠ a := by
        rintro rfl
        have i1 := (List.getElem?_eq_some_iff.mp h1)
        have i2 := (List.getElem?_eq_some_iff.mp hl)
        obtain ⟨j1, e1⟩ := i1
        obtain ⟨j2, e2⟩ := i2
        exact q ((List.getElem_inj m.nd).mp (e1.trans e2.symm))
      exact (m.ob k b u h1 h2).ext0 e fun o ho => by rw [upd_ne hba]; exact ho
theorem Sim.write {l : Nat} {a : Addr} {ho : HO} {o : O} (m : Sim G θ S H) (hl : θ[l]? = some a) (e : Ext G θ H θ (upd H a ho)) (h : ObR G θ (upd H a ho) a o) : Sim G θ (S.set l o) (upd H a ho) := m.write0 hl e.toExt0 h
/-- one is unlocked: all else stands -/
theorem Ext0.unl {a : Addr} {o : Obj} {φ : Heap → Prop} {u : HO} (h1 : H a = some (.frz o (.ext φ))) : Ext0 G θ H θ (upd H a u) where
  pre := fun _ _ h => h
  tp := fun b vs h => SqT.upd h fun v ev q => by
    rw [h1] at ev
    cases ev
    rcases q with q | ⟨ob, q⟩ <;> cases q
  fz := fun b vs h => SqF.upd h fun v ev q => by
    rw [h1] at ev
    cases ev
    obtain ⟨ob, q⟩ := q
    cases q
end

/-! ### slots -/
structure RepE (G : Gx) (θ : List Addr) (H : Hp) (σ : Env) (τ : L2.St) : Prop where
  len : τ.length = σ.length
  at_ : ∀ (i : Nat) (d : D), σ[i]? = some (some d) → ∃ v, τ[i]? = some (some v) ∧ Rep G θ H d v
section
variable {G : Gx} {θ θ1 : List Addr} {H H1 : Hp} {σ : Env} {τ : L2.St}
theorem RepE.ext0 (e : Ext0 G θ H θ1 H1) (r : RepE G θ H σ τ) : RepE G θ1 H1 σ τ := ⟨r.len, fun i d h => let ⟨v, h1, h2⟩ := r.at_ i d h; ⟨v, h1, h2.ext0 e⟩⟩
theorem RepE.ext (e : Ext G θ H θ1 H1) (r : RepE G θ H σ τ) : RepE G θ1 H1 σ τ := r.ext0 e.toExt0
theorem RepE.set {d : D} {v : V} (r : RepE G θ H σ τ) (i : Nat) (h : Rep G θ H d v) : RepE G θ H (σ.set i (some d)) (τ.set i (some v)) := by
  refine ⟨by rw [List.length_set, List.length_set]; exact r.len, fun j e hj => ?_⟩
  by_cases q : j = i
  · subst q
    by_cases hl : j < σ.length
    · rw [List.getElem?_set_self hl] at hj
      cases hj
      exact ⟨v, by rw [List.getElem?_set_self (by rw [r.len]; exact hl)], h⟩
    · rw [List.getElem?_eq_none (by rw [List.length_set]; omega)] at hj; cases hj
  · rw [List.getElem?_set_ne (Ne.symm q)] at hj
    obtain ⟨u, h1, h2⟩ := r.at_ j e hj
    exact ⟨u, by rw [List.getElem?_set_ne (Ne.symm q)]; exact h1, h2⟩
theorem RepE.unset (r : RepE G θ H σ τ) (i : Nat) : RepE G θ H (σ.set i none) (τ.set i none) := by
  refine ⟨by rw [List.length_set, List.length_set]; exact r.len, fun j e hj => ?_⟩
  by_cases q : j = i
  · subst q
    by_cases hl : j < σ.length
    · rw [List.getElem?_set_self hl] at hj; cases hj
    · rw [List.getElem?_eq_none (by rw [List.length_set]; omega)] at hj; cases hj
  · rw [List.getElem?_set_ne (Ne.symm q)] at hj
    obtain ⟨u, h1, h2⟩ := r.at_ j e hj
    exact ⟨u, by rw [List.getElem?_set_ne (Ne.symm q)]; exact h1, h2⟩
theorem RepE.wipe (r : RepE G θ H σ τ) : ∀ is : List Nat, RepE G θ H (Nog.wipe σ is) (L2.wipe τ is)
  | [] => r
  | i :: is => (RepE.wipe r is).unset i
end

/-! ### what is wanted behind -/
/-- a value ahead of its storing; H₀: what was tracked at the beginning -/
def RepP (G : Gx) (H₀ : Hp) (θ : List Addr) (H : Hp) : Pv → V → Prop
  | .val d, v => Rep G θ H d v
  | .fresh ds, v => ∃ a vs, v = .ref a ∧ H a = some (.lst vs) ∧ RepL G θ H ds vs ∧ a ∉ θ ∧ H₀ a = none
  | .rng _ _, _ => False
  | .its _ _, _ => False
/-- the wish about exceptions: class, fields, the slots, the heap -/
abbrev WX' := X → List Addr → Sto → Hp → Prop
def Post (G : Gx) (W : WX') (θ : List Addr) (H : Hp) (r : Rs Pv) (Q : VK) : Prop :=
  match r with
  | .ok p S' => ∀ θ' H' v, Ext G θ H θ' H' → Sim G θ' S' H' → RepP G H θ' H' p v → Q v H'
  | .ex x S' => ∀ θ' H', Ext G θ H θ' H' → Sim G θ' S' H' → W x θ' S' H'
  | .no => False
section
variable {G : Gx} {W : WX'} {θ θ1 : List Addr} {H H1 : Hp} {S : Sto}
theorem RepP.low {H₀ : Hp} {θ' : List Addr} {H' : Hp} {p : Pv} {v : V} (e : Ext G θ H θ1 H1) (h : RepP G H1 θ' H' p v) : RepP G H θ' H' p v := by
  cases p with
  | val d => exact h
  | fresh ds =>
    obtain ⟨a, vs, h1, h2, h3, h4, h5⟩ := h
    exact ⟨a, vs, h1, h2, h3, h4, e.up a h5⟩
  | rng lo hi => exact h
  | its xs hs => exact h
theorem Post.rebase {r : Rs Pv} {Q : VK} (e : Ext G θ H θ1 H1) (h : Post G W θ H r Q) : Post G W θ1 H1 r Q := by
  cases r with
  | ok p S' => exact fun θ' H' v e' m q => h θ' H' v (e.trans e') m (q.low (H₀ := H) e)
  | ex x S' => exact fun θ' H' e' m => h θ' H' (e.trans e') m
  | no => exact h
end
/-- an expression's reading by the evaluator -/
def tE (G : Gx) (W : WX') (m : Env → Sto → Rs Pv) : TE := fun τ H Q => ∃ σ θ S, RepE G θ H σ τ ∧ Sim G θ S H ∧ Post G W θ H (m σ S) Q
end Nog

set_option Elab.async false
set_option linter.all false
set_option maxRecDepth 100000
set_option maxHeartbeats 1000000
/-! plain values as the library's data -/
namespace Nog
open PySem L2
mutual
def D.py : D → PyData
  | .non => .none
  | .bl b => .bool b
  | .int i => .int i
  | .str s => .str (toS s)
  | .tup xs => .tuple (D.pyL xs)
  | _ => .none
def D.pyL : List D → List PyData
  | [] => []
  | x :: xs => D.py x :: D.pyL xs
end
theorem toS_inj {a b : List Nat} (h : toS a = toS b) : a = b := by
  have := congrArg Str.cps h
  simpa [toS] using this
theorem toS_eq {a b : List Nat} : toS a = toS b ↔ a = b := ⟨toS_inj, fun h => by rw [h]⟩
theorem toS_list (a : List Nat) : (toS a).cps.toList = a := by simp [toS]
mutual
theorem py_plain : ∀ d : D, (D.py d).plain = true
  | .non => rfl
  | .bl _ => rfl
  | .int _ => rfl
  | .str _ => rfl
  | .tup xs => by rw [D.py, PyData.plain]; exact pyL_plain xs
  | .ref _ => rfl
  | .fn _ => rfl
  | .rol _ => rfl
theorem pyL_plain : ∀ ds : List D, PyData.plainAll (D.pyL ds) = true
  | [] => rfl
  | x :: xs => by rw [D.pyL, PyData.plainAll, py_plain x, pyL_plain xs]; rfl
end
mutual
theorem py_depth : ∀ d : D, (D.py d).depth = D.depth d
  | .non => rfl
  | .bl _ => rfl
  | .int _ => rfl
  | .str _ => rfl
  | .tup xs => by rw [D.py, PyData.depth, D.depth, pyL_depth xs]
  | .ref _ => rfl
  | .fn _ => rfl
  | .rol _ => rfl
theorem pyL_depth : ∀ ds : List D, PyData.depthAll (D.pyL ds) = D.depthL ds
  | [] => rfl
  | x :: xs => by rw [D.pyL, PyData.depthAll, D.depthL, py_depth x, pyL_depth xs]
end
theorem int_beq_dec (a b : Int) : (a == b) = decide (a = b) := by
  by_cases h : a = b <;> simp [h]
theorem str_beq_dec (a b : List Nat) : (toS a == toS b) = decide (a = b) := by
  by_cases h : a = b
  · subst h; simp
  · have h' : ¬ toS a = toS b := fun e => h (toS_inj e)
    simp [h, h']
mutual
theorem py_eqv : ∀ d e : D, D.plain d = true → D.plain e = true → PyData.eqv (D.py d) (D.py e) = D.eqb d e
  | .non, e, _, he => by cases e <;> simp [D.py, PyData.eqv, D.eqb, D.plain] at he ⊢
  | .bl b, e, _, he => by
    cases e <;> simp [D.py, PyData.eqv, D.eqb, D.plain] at he ⊢
    rename_i i
    rw [← int_beq_dec]
    cases b <;> rfl
  | .int i, e, _, he => by
    cases e <;> simp [D.py, PyData.eqv, D.eqb, D.plain] at he ⊢
    · rename_i b
      rw [← int_beq_dec]
      cases b <;> rfl
    · rw [← int_beq_dec]
  | .str s, e, _, he => by
    cases e <;> simp [D.py, PyData.eqv, D.eqb, D.plain] at he ⊢
    exact str_beq_dec _ _
  | .tup xs, e, hd, he => by
    cases e <;> simp [D.py, PyData.eqv, D.eqb, D.plain] at he ⊢
    exact pyL_eqv xs _ (by simpa [D.plain] using hd) he
  | .ref _, _, hd, _ => by simp [D.plain] at hd
  | .fn _, _, hd, _ => by simp [D.plain] at hd
  | .rol _, _, hd, _ => by simp [D.plain] at hd
theorem pyL_eqv : ∀ ds es : List D, D.plainL ds = true → D.plainL es = true → PyData.eqvAll (D.pyL ds) (D.pyL es) = D.eqbL ds es
  | [], es, _, _ => by cases es <;> simp [D.pyL, PyData.eqvAll, D.eqbL]
  | x :: xs, [], _, _ => by simp [D.pyL, PyData.eqvAll, D.eqbL]
  | x :: xs, y :: ys, hd, he => by
    simp only [D.plainL, Bool.and_eq_true] at hd he
    rw [D.pyL, D.pyL, PyData.eqvAll, D.eqbL, py_eqv x y hd.1 he.1, pyL_eqv xs ys hd.2 he.2]
end
mutual
theorem py_alike : ∀ d e : D, D.plain d = true → D.plain e = true → PySem.W.alike (D.py d) (D.py e) = D.alike d e
  | .non, e, _, he => by cases e <;> simp [D.py, PySem.W.alike, D.alike, D.plain] at he ⊢
  | .bl b, e, _, he => by cases e <;> simp [D.py, PySem.W.alike, D.alike, D.plain] at he ⊢
  | .int i, e, _, he => by cases e <;> simp [D.py, PySem.W.alike, D.alike, D.plain] at he ⊢
  | .str s, e, _, he => by cases e <;> simp [D.py, PySem.W.alike, D.alike, D.plain] at he ⊢
  | .tup xs, e, hd, he => by
    cases e <;> simp [D.py, PySem.W.alike, D.alike, D.plain] at he ⊢
    exact pyL_alike xs _ (by simpa [D.plain] using hd) he
  | .ref _, _, hd, _ => by simp [D.plain] at hd
  | .fn _, _, hd, _ => by simp [D.plain] at hd
  | .rol _, _, hd, _ => by simp [D.plain] at hd
theorem pyL_alike : ∀ ds es : List D, D.plainL ds = true → D.plainL es = true → PySem.W.alikeAll (D.pyL ds) (D.pyL es) = D.alikeL ds es
  | [], es, _, _ => by cases es <;> simp [D.pyL, PySem.W.alikeAll, D.alikeL]
  | x :: xs, [], _, _ => by simp [D.pyL, PySem.W.alikeAll, D.alikeL]
  | x :: xs, y :: ys, hd, he => by
    simp only [D.plainL, Bool.and_eq_true] at hd he
    rw [D.pyL, D.pyL, PySem.W.alikeAll, D.alikeL, py_alike x y hd.1 he.1, pyL_alike xs ys hd.2 he.2]
end
theorem lexLt_nil_left (l : List (Int ⊕ List Nat)) : PyProof.Rows.lexLt PyProof.Rows.itemOrd [] l = !l.isEmpty := by
  cases l <;> rfl
theorem lexLt_nil_right (l : List (Int ⊕ List Nat)) : PyProof.Rows.lexLt PyProof.Rows.itemOrd l [] = false := by
  cases l <;> rfl
mutual
theorem py_lt : ∀ d e : D, D.plain d = true → D.plain e = true → D.alike d e = true → d ≠ .non → PySem.W.dataLt (D.py d) (D.py e) = D.ltb d e
  | .non, e, _, _, _, hn => absurd rfl hn
  | .bl b, e, _, he, ha, _ => by
    cases e <;> simp [D.alike] at ha
    rw [D.py, D.py, PySem.W.dataLt_bool, D.ltb]
    rename_i c
    cases b <;> cases c <;> rfl
  | .int i, e, _, he, ha, _ => by
    cases e <;> simp [D.alike] at ha
    rw [D.py, D.py, PySem.W.dataLt_int, D.ltb]
  | .str s, e, _, he, ha, _ => by
    cases e <;> simp [D.alike] at ha
    rw [D.py, D.py, PySem.W.dataLt_str, D.ltb, toS_list, toS_list]
  | .tup xs, e, hd, he, ha, _ => by
    cases e <;> simp [D.alike] at ha
    rename_i ys
    rw [D.py, D.py, PySem.W.dataLt_tuple, D.ltb]
    exact pyL_lt xs ys (by simpa [D.plain] using hd) (by simpa [D.plain] using he) ha
  | .ref _, _, hd, _, _, _ => by simp [D.plain] at hd
  | .fn _, _, hd, _, _, _ => by simp [D.plain] at hd
  | .rol _, _, hd, _, _, _ => by simp [D.plain] at hd
theorem pyL_lt : ∀ ds es : List D, D.plainL ds = true → D.plainL es = true → D.alikeL ds es = true →
    PyProof.Rows.lexLt PyProof.Rows.itemOrd (PySem.W.keyToksAll (D.pyL ds)) (PySem.W.keyToksAll (D.pyL es)) = D.ltbL ds es
  | [], [], _, _, _ => by simp [D.pyL, D.ltbL, PySem.W.keyToksAll]; rfl
  | [], y :: ys, _, _, _ => by simp [D.pyL, D.ltbL, PySem.W.keyToksAll]; rfl
  | x :: xs, [], _, _, _ => by simp [D.pyL, D.ltbL, PySem.W.keyToksAll]; rfl
  | x :: xs, y :: ys, hd, he, ha => by
    simp only [D.plainL, Bool.and_eq_true] at hd he
    simp only [D.alikeL, Bool.and_eq_true] at ha
    have h1 : PySem.W.alike (D.py x) (D.py y) = true := by rw [py_alike x y hd.1 he.1]; exact ha.1
    rw [D.pyL, show D.pyL (y :: ys) = D.py y :: D.pyL ys from rfl, D.ltbL]
    cases e : D.eqb x y with
    | true =>
      rw [PySem.W.dataLt_all_yes h1 (by rw [py_eqv x y hd.1 he.1]; exact e), if_pos rfl]
      exact pyL_lt xs ys hd.2 he.2 ha.2
    | false =>
      rw [PySem.W.dataLt_all_no h1 (by rw [py_eqv x y hd.1 he.1]; exact e), if_neg (by simp)]
      refine py_lt x y hd.1 he.1 ha.1 ?_
      rintro rfl
      cases y <;> simp [D.alike] at ha
      simp [D.eqb] at e
end
theorem any_py {x : D} (hx : D.plain x = true) : ∀ {xs : List D}, D.plainL xs = true → ((D.pyL xs).any fun y => PyData.eqv y (D.py x)) = memb x xs
  | [], _ => rfl
  | y :: ys, h => by
    simp only [D.plainL, Bool.and_eq_true] at h
    rw [D.pyL, List.any_cons, any_py hx h.2, py_eqv y x h.1 hx, memb]

section
variable {G : Gx} {θ : List Addr} {H : Hp}
mutual
theorem Rep.dp : ∀ {d : D} {v : V}, D.plain d = true → Rep G θ H d v → Dp G.K H v (D.py d)
  | .non, _, _, h => by rw [Rep] at h; subst h; exact .non
  | .bl _, _, _, h => by rw [Rep] at h; subst h; exact .bl _
  | .int _, _, _, h => by rw [Rep] at h; subst h; exact .int _
  | .str _, _, _, h => by rw [Rep] at h; subst h; exact .str _
  | .tup ds, _, hp, h => by
    rw [Rep] at h
    obtain ⟨a, vs, rfl, h2, h3⟩ := h
    rw [D.py]
    exact .tup h2 (RepL.dp (by simpa [D.plain] using hp) h3)
  | .ref _, _, hp, _ => by simp [D.plain] at hp
  | .fn _, _, hp, _ => by simp [D.plain] at hp
  | .rol _, _, hp, _ => by simp [D.plain] at hp
theorem RepL.dp : ∀ {ds : List D} {vs : List V}, D.plainL ds = true → RepL G θ H ds vs → DpAll G.K H vs (D.pyL ds)
  | [], _, _, h => by rw [h.nil_inv, D.pyL]; exact .nil
  | d :: ds, _, hp, h => by
    obtain ⟨v, r, rfl, h1, h2⟩ := h.cons_inv
    simp only [D.plainL, Bool.and_eq_true] at hp
    rw [D.pyL]
    exact .cons (h1.dp hp.1) (h2.dp hp.2)
end
theorem RepP.ext {H₀ : Hp} {θ1 : List Addr} {H1 : Hp} {p : Pv} {v : V} (e : Ext G θ H θ1 H1) (h : RepP G H₀ θ H p v) : RepP G H₀ θ1 H1 p v := by
  cases p with
  | val d => exact Rep.ext e h
  | fresh ds =>
    obtain ⟨a, vs, h1, h2, h3, h4, h5⟩ := h
    exact ⟨a, vs, h1, e.fr a _ h2 h4, h3.ext e, fun z => (e.nw a z).elim h4 (fun q => by rw [q] at h2; cases h2), h5⟩
  | rng lo hi => exact h
  | its xs hs => exact h
end

/-! ### what is wanted behind, of any kind of result -/
def PostR (G : Gx) (W : WX') (θ : List Addr) (H : Hp) {α β : Type} (R : List Addr → Hp → α → β → Prop) (r : Rs α) (Q : β → Hp → Prop) : Prop :=
  match r with
  | .ok a S' => ∀ θ' H' b, Ext G θ H θ' H' → Sim G θ' S' H' → R θ' H' a b → Q b H'
  | .ex x S' => ∀ θ' H', Ext G θ H θ' H' → Sim G θ' S' H' → W x θ' S' H'
  | .no => False
theorem Post.iff {G : Gx} {W : WX'} {θ : List Addr} {H : Hp} {r : Rs Pv} {Q : VK} : Post G W θ H r Q ↔ PostR G W θ H (RepP G H) r Q := by
  cases r <;> exact Iff.rfl
section
variable {G : Gx} {W : WX'} {θ θ1 : List Addr} {H H1 : Hp} {α β γ δ : Type} {R : List Addr → Hp → α → β → Prop} {R' : List Addr → Hp → γ → δ → Prop}
theorem PostR.mono {r : Rs α} {Q Q' : β → Hp → Prop} (h : PostR G W θ H R r Q) (f : ∀ b H, Q b H → Q' b H) : PostR G W θ H R r Q' := by
  cases r with
  | ok a S => exact fun θ' H' b e m q => f b H' (h θ' H' b e m q)
  | ex x S => exact h
  | no => exact h
theorem PostR.rebase {R1 : List Addr → Hp → α → β → Prop} {r : Rs α} {Q : β → Hp → Prop} (e : Ext G θ H θ1 H1) (f : ∀ θ' H' a b, R1 θ' H' a b → R θ' H' a b) (h : PostR G W θ H R r Q) : PostR G W θ1 H1 R1 r Q := by
  cases r with
  | ok a S => exact fun θ' H' b e' m q => h θ' H' b (e.trans e') m (f _ _ _ _ q)
  | ex x S => exact fun θ' H' e' m => h θ' H' (e.trans e') m
  | no => exact h
theorem PostR.bind {r : Rs α} {k : α → Sto → Rs γ} {Q : δ → Hp → Prop} (h : PostR G W θ H R' (r.bind k) Q) :
    PostR G W θ H R r (fun b H1 => ∃ a θ1 S1, r = .ok a S1 ∧ Ext G θ H θ1 H1 ∧ Sim G θ1 S1 H1 ∧ R θ1 H1 a b ∧ PostR G W θ H R' (k a S1) Q) := by
  cases r with
  | ok a S => exact fun θ' H' b e m q => ⟨a, θ', S, rfl, e, m, q, h⟩
  | ex x S => exact h
  | no => exact h
theorem Post.pbind {r : Rs Pv} {k : Pv → Sto → Rs Pv} {Q : VK} (h : Post G W θ H (r.bind k) Q) :
    Post G W θ H r (fun v H1 => ∃ p θ1 S1, r = .ok p S1 ∧ Ext G θ H θ1 H1 ∧ Sim G θ1 S1 H1 ∧ RepP G H θ1 H1 p v ∧ Post G W θ1 H1 (k p S1) Q) := by
  cases r with
  | ok a S => exact fun θ' H' b e m q => ⟨a, θ', S, rfl, e, m, q, Post.rebase e h⟩
  | ex x S => exact h
  | no => exact h
theorem Post.pbind0 {r : Rs Pv} {k : Pv → Sto → Rs Pv} {Q : VK} (h : Post G W θ H (r.bind k) Q) :
    Post G W θ H r (fun v H1 => ∃ p θ1 S1, r = .ok p S1 ∧ Ext G θ H θ1 H1 ∧ Sim G θ1 S1 H1 ∧ RepP G H θ1 H1 p v ∧ Post G W θ H (k p S1) Q) := by
  cases r with
  | ok a S => exact fun θ' H' b e m q => ⟨a, θ', S, rfl, e, m, q, h⟩
  | ex x S => exact h
  | no => exact h
theorem Post.mono {r : Rs Pv} {Q Q' : VK} (h : Post G W θ H r Q) (f : ∀ v H, Q v H → Q' v H) : Post G W θ H r Q' := by
  cases r with
  | ok a S => exact fun θ' H' b e m q => f b H' (h θ' H' b e m q)
  | ex x S => exact h
  | no => exact h
/-- the result is at hand -/
theorem Post.now {p : Pv} {S : Sto} {v : V} {Q : VK} (h : Post G W θ H (.ok p S) Q) (m : Sim G θ S H) (r : RepP G H θ H p v) : Q v H := h θ H v .refl m r
/-- one, two values that were reckoned, and what is done with them -/
def K1 (G : Gx) (W : WX') (k : Pv → Sto → Rs Pv) : V → Hp → VK → Prop := fun x H Q => ∃ p θ S H₁, Sim G θ S H ∧ RepP G H₁ θ H p x ∧ Post G W θ H (k p S) Q
def K2 (G : Gx) (W : WX') (k : Pv → Pv → Sto → Rs Pv) : R2 := fun x y H Q => ∃ p q θ S H₁ H₂, Sim G θ S H ∧ RepP G H₁ θ H p x ∧ RepP G H₂ θ H q y ∧ Post G W θ H (k p q S) Q
def K3 (G : Gx) (W : WX') (k : Pv → Pv → Pv → Sto → Rs Pv) : V → V → V → Hp → VK → Prop := fun x y z H Q => ∃ p q r θ S H₁ H₂ H₃, Sim G θ S H ∧ RepP G H₁ θ H p x ∧ RepP G H₂ θ H q y ∧ RepP G H₃ θ H r z ∧ Post G W θ H (k p q r S) Q
theorem one {ma : Env → Sto → Rs Pv} {k : Pv → Sto → Rs Pv} {τ : L2.St} {Q : VK} (h : tE G W (fun σ S => (ma σ S).bind fun p S1 => k p S1) τ H Q) : tE G W ma τ H fun x H1 => K1 G W k x H1 Q := by
  obtain ⟨σ, θ, S, rE, m, h⟩ := h
  exact ⟨σ, θ, S, rE, m, h.pbind.mono fun x H1 ⟨p, θ1, S1, _, e1, m1, r1, h1⟩ => ⟨p, θ1, S1, H, m1, r1, h1⟩⟩
theorem two {ma mb : Env → Sto → Rs Pv} {k : Pv → Pv → Sto → Rs Pv} {τ : L2.St} {Q : VK} (h : tE G W (fun σ S => (ma σ S).bind fun p S1 => (mb σ S1).bind fun q S2 => k p q S2) τ H Q) :
    tE G W ma τ H fun x H1 => tE G W mb τ H1 fun y H2 => K2 G W k x y H2 Q := by
  obtain ⟨σ, θ, S, rE, m, h⟩ := h
  refine ⟨σ, θ, S, rE, m, h.pbind.mono fun x H1 ⟨p, θ1, S1, _, e1, m1, r1, h1⟩ => ⟨σ, θ1, S1, rE.ext e1, m1, h1.pbind.mono fun y H2 ⟨q, θ2, S2, _, e2, m2, r2, h2⟩ => ?_⟩⟩
  exact ⟨p, q, θ2, S2, H, H1, m2, r1.ext e2, r2, h2⟩
theorem three {ma mb mc : Env → Sto → Rs Pv} {k : Pv → Pv → Pv → Sto → Rs Pv} {τ : L2.St} {Q : VK} (h : tE G W (fun σ S => (ma σ S).bind fun p S1 => (mb σ S1).bind fun q S2 => (mc σ S2).bind fun r S3 => k p q r S3) τ H Q) :
    tE G W ma τ H fun x H1 => tE G W mb τ H1 fun y H2 => tE G W mc τ H2 fun z H3 => K3 G W k x y z H3 Q := by
  obtain ⟨σ, θ, S, rE, m, h⟩ := h
  refine ⟨σ, θ, S, rE, m, h.pbind.mono fun x H1 ⟨p, θ1, S1, _, e1, m1, r1, h1⟩ => ⟨σ, θ1, S1, rE.ext e1, m1, h1.pbind.mono fun y H2 ⟨q, θ2, S2, _, e2, m2, r2, h2⟩ => ⟨σ, θ2, S2, (rE.ext e1).ext e2, m2, h2.pbind.mono fun z H3 ⟨r, θ3, S3, _, e3, m3, r3, h3⟩ => ?_⟩⟩⟩
  exact ⟨p, q, r, θ3, S3, H, H1, H2, m3, (r1.ext e2).ext e3, r2.ext e3, r3, h3⟩
end
theorem PE.imp {X : Cx} {e : Expr} {t t' : TE} (h : PE X e t) (f : ∀ σ H Q, t' σ H Q → t σ H Q) : PE X e t' := ⟨fun pins s σ H Q I q => h.run pins s σ H Q I (f σ H Q q)⟩
theorem PT.imp {X : Cx} {e : Expr} {t t' : TT} (h : PT X e t) (f : ∀ σ H Q, t' σ H Q → t σ H Q) : PT X e t' := ⟨fun pins s σ H Q I q => h.run pins s σ H Q I (f σ H Q q)⟩
theorem PS.imp {X : Cx} {e : Stmt} {t t' : TS} (h : PS X e t) (f : ∀ D σ H, t' D σ H → t D σ H) : PS X e t' := ⟨fun pins s σ H Q I q => h.run pins s σ H Q I (f Q σ H q)⟩
theorem PSs.imp {X : Cx} {e : List Stmt} {t t' : TS} (h : PSs X e t) (f : ∀ D σ H, t' D σ H → t D σ H) : PSs X e t' := ⟨fun pins s σ H Q I q => h.run pins s σ H Q I (f Q σ H q)⟩
/-- the fixed part, from a context -/
abbrev gx (X : Cx) (FA : Nat → Option Addr) : Gx := ⟨X.prog, X.w, X.K, FA⟩
end Nog

set_option Elab.async false
set_option linter.all false
set_option maxRecDepth 100000
set_option maxHeartbeats 2000000
namespace L2
open PySem PySem.Spec PyProof.Rows
theorem tuple_mulS (l : Addr) (items : Array Value) (n : Nat) (dd : Option Addr) (sl : Array (Option Value)) (x : Int) (u : Tok) (c0 : (decide (x < -(2 ^ 63)) || decide (x ≥ 2 ^ 63)) = false) (c1 : (items.isEmpty || x == 1) = true) :
    Meets (Builtin.«tuple.__mul__» ⟨[.ref l, .int x u], []⟩) (fun _ R s => s.heap.get? l = some { cls := .type "tuple", dict := dd, data := .seq items n, slots := sl } ∧
      R (.ok (.ret (Value.ref l))) s) :=
  .of_wp fun prog w A R s h => by
    obtain ⟨hp, g, d, tk, os⟩ := s
    obtain ⟨hl, h⟩ := h
    have f1 := AutoSeq1.idx_int
    wp_walk using wpAny_loadPart' hl
    repeat (first
      | (refine wpAny_ite_false (decide_eq_false (by rw [c0]; exact Bool.false_ne_true)) ?_; wp_walk using wpAny_loadPart' hl)
      | (refine wpAny_ite_true (decide_eq_true (by rw [c1])) ?_; wp_walk using wpAny_loadPart' hl))
    exact ⟨_, rfl, h⟩
theorem tuple_mulZ (l : Addr) (items : Array Value) (n : Nat) (dd : Option Addr) (sl : Array (Option Value)) (x : Int) (u : Tok) (c0 : (decide (x < -(2 ^ 63)) || decide (x ≥ 2 ^ 63)) = false) (c1 : (items.isEmpty || x == 1) = false) (c2 : (decide (x ≤ 0) || items.isEmpty) = true) :
    Meets (Builtin.«tuple.__mul__» ⟨[.ref l, .int x u], []⟩) (fun _ R s => s.heap.get? l = some { cls := .type "tuple", dict := dd, data := .seq items n, slots := sl } ∧
      R (.ok (.ret (Value.ref s.heap.objs.size))) { s with heap := s.heap.push { cls := Value.type "tuple", data := Data.seq #[] }, toks := s.toks }) :=
  .of_wp fun prog w A R s h => by
    obtain ⟨hp, g, d, tk, os⟩ := s
    obtain ⟨hl, h⟩ := h
    have f1 := AutoSeq1.idx_int
    wp_walk using wpAny_loadPart' hl
    repeat (first
      | (refine wpAny_ite_false (decide_eq_false (by rw [c0]; exact Bool.false_ne_true)) ?_; wp_walk using wpAny_loadPart' hl)
      | (refine wpAny_ite_false (decide_eq_false (by rw [c1]; exact Bool.false_ne_true)) ?_; wp_walk using wpAny_loadPart' hl)
      | (refine wpAny_ite_true (decide_eq_true (by rw [c2])) ?_; wp_walk using wpAny_loadPart' hl)
      | (refine wpAny_ite_false (decide_eq_false (Nat.not_lt.mpr (Nat.zero_le _))) ?_; wp_walk using wpAny_loadPart' hl))
    exact ⟨_, rfl, h⟩
section
variable {X : Cx}
def rRepS (K : PySem.W.Frag) : R2 := fun x y H Q => ∃ l k xs, x = .ref l ∧ y = .int k ∧ SqT K H l xs ∧ -(2 ^ 63) ≤ k ∧ k < 2 ^ 63 ∧ (xs = [] ∨ k = 1) ∧ Q (.ref l) H
theorem op_repS : OpR X (binaryOp .Mult) (rRepS X.K) := by
  intro pins s σ H x y v u Q I rx ry h
  obtain ⟨l, k, xs, rfl, rfl, hT, h1, h2, hc, q⟩ := h
  cases rx
  obtain ⟨t, rfl⟩ := ry
  obtain ⟨its, r, ⟨⟨cls, dd, data, sl⟩, ho, hc', n, hd⟩, hs⟩ := I.tuple hT
  simp only at hc' hd
  subst hc' hd
  have c0 : (decide (k < -(2 ^ 63)) || decide (k ≥ 2 ^ 63)) = false := by
    rw [decide_eq_false (by omega), decide_eq_false (by omega)] <;> rfl
  have c1 : (its.toArray.isEmpty || k == 1) = true := by
    rcases hc with rfl | rfl
    · cases r; rfl
    · simp
  exact wpAny_binaryOp_repeat_ref (T := "tuple") (U := "int") (by decide) ⟨_, ho, rfl⟩ (fun s' => typeIs_int s' k t) noFill_tuple_mul F.fills_int_mul F.slot_int_rmul repeat_tuple F.slot_int_index.lookup
    (call_meets F.slot_int_rmul (typeIs_int s k t) F.entry_int_rmul (F.args_int_rmul_2 _ _) (int_rmul_tuple k t l its.toArray n dd sl)
      ⟨ho, rfl, ⟨_, ho, rfl⟩, call_meets F.slot_tuple_mul ⟨_, ho, rfl⟩ F.entry_tuple_mul (F.args_tuple_mul_2 _ _) (tuple_mulS l its.toArray n dd sl k t c0 c1) ⟨ho, ⟨.ref l, H, I, rfl, q⟩⟩⟩)
def rRepZ (K : PySem.W.Frag) : R2 := fun x y H Q => ∃ l k xs, x = .ref l ∧ y = .int k ∧ SqT K H l xs ∧ xs ≠ [] ∧ -(2 ^ 63) ≤ k ∧ k ≤ 0 ∧ ∀ p, H p = none → Q (.ref p) (upd H p (.tup []))
theorem op_repZ : OpR X (binaryOp .Mult) (rRepZ X.K) := by
  intro pins s σ H x y v u Q I rx ry h
  obtain ⟨l, k, xs, rfl, rfl, hT, hne, h1, h2, q⟩ := h
  cases rx
  obtain ⟨t, rfl⟩ := ry
  obtain ⟨its, r, ⟨⟨cls, dd, data, sl⟩, ho, hc', n, hd⟩, hs⟩ := I.tuple hT
  simp only at hc' hd
  subst hc' hd
  have hi : its.toArray.isEmpty = false := by
    cases r with
    | nil => exact absurd rfl hne
    | cons _ _ => rfl
  have c0 : (decide (k < -(2 ^ 63)) || decide (k ≥ 2 ^ 63)) = false := by
    rw [decide_eq_false (by omega), decide_eq_false (by omega)] <;> rfl
  have c1 : (its.toArray.isEmpty || k == 1) = false := by
    rw [hi, Bool.false_or]
    exact beq_eq_false_iff_ne.mpr (by omega)
  have c2 : (decide (k ≤ 0) || its.toArray.isEmpty) = true := by rw [decide_eq_true h2] <;> rfl
  refine wpAny_binaryOp_repeat_ref (T := "tuple") (U := "int") (by decide) ⟨_, ho, rfl⟩ (fun s' => typeIs_int s' k t) noFill_tuple_mul F.fills_int_mul F.slot_int_rmul repeat_tuple F.slot_int_index.lookup
    (call_meets F.slot_int_rmul (typeIs_int s k t) F.entry_int_rmul (F.args_int_rmul_2 _ _) (int_rmul_tuple k t l its.toArray n dd sl)
      ⟨ho, rfl, ⟨_, ho, rfl⟩, call_meets F.slot_tuple_mul ⟨_, ho, rfl⟩ F.entry_tuple_mul (F.args_tuple_mul_2 _ _) (tuple_mulZ l its.toArray n dd sl k t c0 c1 c2) ⟨ho, ?_⟩⟩)
  refine ⟨.ref s.heap.objs.size, _, I.laid (t' := s.toks) (o := .tup []) (fun b ob q => Heap.get?_push_of_some _ q) (Nat.le_refl _) ?_, rfl, q _ (I.hok.fresh (Nat.le_refl _))⟩
  exact ⟨Nat.zero_le _, [], .nil, IsTup.new _ _⟩
end
end L2

set_option Elab.async false
set_option linter.all false
set_option maxRecDepth 100000
set_option maxHeartbeats 1000000
/-! dicts whose keys are tuples -/
namespace Nog
open PySem L2 PyProof.Rows
mutual
theorem nk_depth : ∀ d : D, D.isKey d = true → (D.nk d).depth = D.depth d
  | .non, _ => rfl
  | .int _, _ => rfl
  | .str _, _ => rfl
  | .tup xs, h => by rw [D.nk, NestedKey.depth, D.depth, nkL_depth xs (by simpa [D.isKey] using h)]
  | .bl _, h => by simp [D.isKey] at h
  | .ref _, h => by simp [D.isKey] at h
  | .fn _, h => by simp [D.isKey] at h
  | .rol _, h => by simp [D.isKey] at h
theorem nkL_depth : ∀ ds : List D, D.isKeyL ds = true → NestedKey.depthAll (D.nkL ds) = D.depthL ds
  | [], _ => rfl
  | x :: xs, h => by
    simp only [D.isKeyL, Bool.and_eq_true] at h
    rw [D.nkL, NestedKey.depthAll, D.depthL, nk_depth x h.1, nkL_depth xs h.2]
end
mutual
theorem nk_inj : ∀ d e : D, D.isKey d = true → D.isKey e = true → D.nk d = D.nk e → d = e
  | .non, e, _, he, h => by cases e <;> simp [D.nk, D.isKey] at he h ⊢
  | .int _, e, _, he, h => by cases e <;> simp [D.nk, D.isKey] at he h ⊢; exact h
  | .str _, e, _, he, h => by
    cases e <;> simp [D.nk, D.isKey] at he h ⊢
    exact h
  | .tup xs, e, hd, he, h => by
    cases e <;> simp [D.nk, D.isKey] at he h ⊢
    exact nkL_inj xs _ (by simpa [D.isKey] using hd) he h
  | .bl _, _, h, _, _ => by simp [D.isKey] at h
  | .ref _, _, h, _, _ => by simp [D.isKey] at h
  | .fn _, _, h, _, _ => by simp [D.isKey] at h
  | .rol _, _, h, _, _ => by simp [D.isKey] at h
theorem nkL_inj : ∀ ds es : List D, D.isKeyL ds = true → D.isKeyL es = true → D.nkL ds = D.nkL es → ds = es
  | [], es, _, _, h => by cases es <;> simp [D.nkL] at h ⊢
  | x :: xs, [], _, _, h => by simp [D.nkL] at h
  | x :: xs, y :: ys, hd, he, h => by
    simp only [D.isKeyL, Bool.and_eq_true] at hd he
    simp only [D.nkL, List.cons.injEq] at h
    rw [nk_inj x y hd.1 he.1 h.1, nkL_inj xs ys hd.2 he.2 h.2]
end
theorem okKey_inv {k : D} (h : okKey k = true) : (∃ ks, k = .tup ks) ∧ D.isKey k = true ∧ D.depth k ≤ 8 := by
  simp only [okKey, Bool.and_eq_true, decide_eq_true_eq] at h
  refine ⟨?_, h.1.2, h.2⟩
  cases k with
  | tup ks => exact ⟨ks, rfl⟩
  | _ => simp at h
theorem nk_iff {d e : D} (hd : okKey d = true) (he : okKey e = true) : D.nk d = D.nk e ↔ d = e :=
  ⟨nk_inj d e (okKey_inv hd).2.1 (okKey_inv he).2.1, fun h => by rw [h]⟩

section
variable {X : Cx} {FA : Nat → Option Addr} {θ : List Addr} {pins : List (Addr × Obj)} {s : Shared} {τ : L2.St} {H : Hp}
mutual
theorem Rep.nested (I : Inv X pins τ H s) : ∀ {d : D} {v : V} {u : Value}, D.isKey d = true → Rep (gx X FA) θ H d v → RelV v u → NestedIs s.heap (D.nk d) u
  | .non, _, _, _, h, r => by rw [Rep] at h; subst h; cases r; exact .none
  | .int _, _, _, _, h, r => by rw [Rep] at h; subst h; obtain ⟨t, rfl⟩ := r; exact .int _ t
  | .str _, _, _, _, h, r => by rw [Rep] at h; subst h; obtain ⟨t, rfl⟩ := r; exact .text _ t
  | .tup ds, _, _, hk, h, r => by
    rw [Rep] at h
    obtain ⟨a, vs, rfl, h2, h3⟩ := h
    cases r
    obtain ⟨its, rv, ⟨o, ho, hc, n, hd⟩, hz⟩ := I.tuple h2
    rw [D.nk]
    exact .tup ho hc hd (RepL.nested I (by simpa [D.isKey] using hk) h3 (by simpa using rv))
  | .bl _, _, _, hk, _, _ => by simp [D.isKey] at hk
  | .ref _, _, _, hk, _, _ => by simp [D.isKey] at hk
  | .fn _, _, _, hk, _, _ => by simp [D.isKey] at hk
  | .rol _, _, _, hk, _, _ => by simp [D.isKey] at hk
theorem RepL.nested (I : Inv X pins τ H s) : ∀ {ds : List D} {vs : List V} {us : List Value}, D.isKeyL ds = true → RepL (gx X FA) θ H ds vs → Vals vs us → NestedAll s.heap (D.nkL ds) us
  | [], _, _, _, h, r => by rw [h.nil_inv] at r; cases r; exact .nil
  | d :: ds, _, _, hk, h, r => by
    obtain ⟨v, w, rfl, h1, h2⟩ := h.cons_inv
    simp only [D.isKeyL, Bool.and_eq_true] at hk
    cases r with
    | cons r1 r2 =>
      rw [D.nkL]
      exact .cons (h1.nested I hk.1 r1) (h2.nested I hk.2 r2)
end
/-- the entries as the library has them -/
def zip3 : List KE3 → List Value → List (NestedKey × Addr × Value)
  | (k, a, _) :: es, u :: us => (k, a, u) :: zip3 es us
  | _, _ => []
abbrev RelE (p : KE3) (u : Value) : Prop := RelV p.2.2 u
theorem zip3_entries {P : Program} {w : World} : ∀ {es : List KE3} {us : List Value}, Paired RelE es us →
    ((es.zip us).map fun q => (⟨NestedKey.hash w q.1.1, .ref q.1.2.1, q.2⟩ : DictEntry)) = (zip3 es us).map (entryOfKey (nestedKind P w))
  | [], _, .nil => rfl
  | (k, a, v) :: es, _, .cons r t => by
    rw [List.zip_cons_cons, List.map_cons, zip3, List.map_cons, zip3_entries t]
    rfl
theorem zip3_keys : ∀ {es : List KE3} {us : List Value}, Paired RelE es us → (zip3 es us).map (·.1) = es.map (·.1)
  | [], _, .nil => rfl
  | (k, a, v) :: es, _, .cons r t => by rw [zip3, List.map_cons, zip3_keys t]; rfl
theorem zip3_length : ∀ {es : List KE3} {us : List Value}, Paired RelE es us → (zip3 es us).length = es.length
  | [], _, .nil => rfl
  | (k, a, v) :: es, _, .cons r t => by rw [zip3, List.length_cons, zip3_length t]; rfl
theorem zip3_mem : ∀ {es : List KE3} {us : List Value}, Paired RelE es us → ∀ x ∈ zip3 es us, ∃ e ∈ es, x.1 = e.1 ∧ x.2.1 = e.2.1
  | [], _, .nil, x, hx => by simp [zip3] at hx
  | (k, a, v) :: es, _, .cons r t, x, hx => by
    rw [zip3] at hx
    rcases List.mem_cons.mp hx with rfl | hx
    · exact ⟨_, List.mem_cons_self, rfl, rfl⟩
    · obtain ⟨e, he, q⟩ := zip3_mem t x hx
      exact ⟨e, List.mem_cons_of_mem _ he, q⟩
/-- the keys of the entries are the keys they are said to be -/
theorem KtR.keys (I : Inv X pins τ H s) : ∀ {kvs : List (D × D)} {es : List KE3}, KtR (gx X FA) θ H kvs es → ∀ e ∈ es, NestedIs s.heap e.1 (.ref e.2.1) ∧ e.1.depth ≤ 8
  | _, _, .nil, _, h => by simp at h
  | _, _, .cons h0 h h' r, e, he => by
    rcases List.mem_cons.mp he with rfl | he
    · obtain ⟨_, hk, hd⟩ := okKey_inv h0
      exact ⟨h.nested I hk rfl, by rw [nk_depth _ hk]; exact hd⟩
    · exact KtR.keys I r e he
theorem KtR.names : ∀ {kvs : List (D × D)} {es : List KE3}, KtR (gx X FA) θ H kvs es → es.map (·.1) = kvs.map fun p => D.nk p.1
  | _, _, .nil => rfl
  | _, _, .cons _ _ _ r => by rw [List.map_cons, List.map_cons, KtR.names r]
theorem KtR.ok : ∀ {kvs : List (D × D)} {es : List KE3}, KtR (gx X FA) θ H kvs es → ∀ p ∈ kvs, okKey p.1 = true
  | _, _, .nil, _, h => by simp at h
  | _, _, .cons h0 _ _ r, p, hp => by
    rcases List.mem_cons.mp hp with rfl | hp
    · exact h0
    · exact KtR.ok r p hp
theorem KtR.length : ∀ {kvs : List (D × D)} {es : List KE3}, KtR (gx X FA) θ H kvs es → es.length = kvs.length
  | _, _, .nil => rfl
  | _, _, .cons _ _ _ r => by rw [List.length_cons, List.length_cons, KtR.length r]
theorem KtR.nodup {kvs : List (D × D)} {es : List KE3} (h : KtR (gx X FA) θ H kvs es) (hn : (kvs.map (·.1)).Nodup) : (es.map (·.1)).Nodup := by
  have ok := h.ok
  rw [h.names]
  clear h
  induction kvs with
  | nil => exact List.nodup_nil
  | cons p r ih =>
    rw [List.map_cons, List.nodup_cons] at hn ⊢
    refine ⟨fun hm => hn.1 ?_, ih hn.2 fun q hq => ok q (List.mem_cons_of_mem _ hq)⟩
    obtain ⟨q, hq, e⟩ := List.mem_map.mp hm
    exact List.mem_map.mpr ⟨q, hq, (nk_iff (ok q (List.mem_cons_of_mem _ hq)) (ok p List.mem_cons_self)).mp e⟩
/-- the dict as the library has it -/
theorem dict_lib (I : Inv X pins τ H s) {a : Addr} {kvs : List (D × D)} {es : List KE3} {lk : Bool} (ha : DctH X.w H a es lk) (h : KtR (gx X FA) θ H kvs es) (hn : (kvs.map (·.1)).Nodup) :
    es.length ≤ sizeLine ∧ (a == sysModules) = false ∧ ∃ us, Paired RelE es us ∧ s.heap.DictOfH (nestedKind X.prog X.w) a (zip3 es us) := by
  obtain ⟨hz, hs, o, ds, ep, us, h1, h2, h3, h4, h5⟩ : DictAt X.w a es s.heap := by
    rcases ha.there with ha | ⟨o, ha⟩
    · exact (I.hok a _ ha).1
    · exact (I.hok a _ ha).2.1
  refine ⟨hz, hs, us, h4, o, ds, ep, h1, h2, h3, by rw [h5]; exact zip3_entries h4, fun x hx => ?_, ?_⟩
  · obtain ⟨e, he, q1, q2⟩ := zip3_mem h4 x hx
    rw [q1, q2]
    exact h.keys I e he
  · rw [zip3_keys h4]
    exact h.nodup hn
theorem dict_back {P : Program} {w : World} {h : Heap} {a : Addr} {es : List KE3} {us : List Value} (hz : es.length ≤ sizeLine) (hs : (a == sysModules) = false) (h4 : Paired RelE es us) (hm : h.DictOfH (nestedKind P w) a (zip3 es us)) : DictAt w a es h := by
  obtain ⟨o, ds, ep, h1, h2, h3, h5, _⟩ := hm
  exact ⟨hz, hs, o, ds, ep, us, h1, h2, h3, h4, by rw [h5]; exact (zip3_entries h4).symm⟩
/-- looking up -/
theorem atKey_zip {k : D} (hk : okKey k = true) : ∀ {kvs : List (D × D)} {es : List KE3} {us : List Value}, KtR (gx X FA) θ H kvs es → Paired RelE es us →
    match lookD k kvs with
    | some d => ∃ a v u, atKey (zip3 es us) (D.nk k) = some (a, u) ∧ RelV v u ∧ Rep (gx X FA) θ H d v
    | none => atKey (zip3 es us) (D.nk k) = none
  | _, _, _, .nil, .nil => by rw [lookD]; rfl
  | _, _, _, .cons (ks := ks) (d := d) (a := a) (v := v) h0 h h' r, .cons (b := u) r1 t => by
    rw [lookD]
    by_cases e : D.tup ks = k
    · rw [if_pos e]
      refine ⟨a, v, u, ?_, r1, h'⟩
      rw [zip3]
      simp [atKey, e]
    · rw [if_neg e]
      have hne : ¬ D.nk (.tup ks) = D.nk k := fun q => e ((nk_iff h0 hk).mp q)
      have ih := atKey_zip hk r t
      rw [zip3]
      have q : ∀ (l : List (NestedKey × Addr × Value)), atKey ((D.nk (.tup ks), a, u) :: l) (D.nk k) = atKey l (D.nk k) := fun l => by simp [atKey, List.find?_cons, hne]
      rw [q]
      exact ih
theorem any_look (k : D) : ∀ kvs : List (D × D), (kvs.any fun p => decide (p.1 = k)) = (lookD k kvs).isSome
  | [] => rfl
  | (a, v) :: r => by
    rw [List.any_cons, lookD, any_look k r]
    by_cases e : a = k <;> simp [e]
/-- storing -/
def putE (k : NestedKey) (a : Addr) (v : V) : List KE3 → List KE3
  | [] => [(k, a, v)]
  | (k', a', v') :: r => if k' = k then (k', a', v) :: r else (k', a', v') :: putE k a v r
theorem storedH_cons_ne {K : Type} [DecidableEq K] {x : K × Addr × Value} {xs : List (K × Addr × Value)} {k : K} {a : Addr} {v : Value} (h : ¬ x.1 = k) : storedH (x :: xs) k a v = x :: storedH xs k a v := by
  have e1 : atKey (x :: xs) k = atKey xs k := by simp [atKey, List.find?_cons, h]
  unfold storedH
  rw [e1]
  split
  · rw [List.map_cons]
    simp [putAt, h]
  · rfl
theorem storedH_cons_eq {K : Type} [DecidableEq K] {x : K × Addr × Value} {xs : List (K × Addr × Value)} {k : K} {a : Addr} {v : Value} (h : x.1 = k) (hn : k ∉ xs.map (·.1)) : storedH (x :: xs) k a v = (x.1, x.2.1, v) :: xs := by
  have e1 : (atKey (x :: xs) k).isSome = true := by simp [atKey, List.find?_cons, h]
  unfold storedH
  rw [if_pos e1, List.map_cons]
  have e2 : xs.map (putAt k v) = xs := by
    have : ∀ y ∈ xs, putAt k v y = y := fun y hy => by
      unfold putAt
      rw [if_neg fun e => hn (List.mem_map.mpr ⟨y, hy, e⟩)]
    exact (List.map_congr_left this).trans (List.map_id _)
  rw [e2]
  unfold putAt
  rw [if_pos h]
theorem stored_zip {k : NestedKey} {a : Addr} {v : V} {u : Value} (ru : RelV v u) : ∀ {es : List KE3} {us : List Value}, Paired RelE es us → (es.map (·.1)).Nodup →
    ∃ us', Paired RelE (putE k a v es) us' ∧ storedH (zip3 es us) k a u = zip3 (putE k a v es) us'
  | [], _, .nil, _ => ⟨[u], .cons ru .nil, by simp [putE, zip3, storedH, atKey]⟩
  | (k', a', v') :: es, _, .cons (b := u') r t, hn => by
    rw [List.map_cons, List.nodup_cons] at hn
    rw [putE, zip3]
    by_cases e : k' = k
    · rw [if_pos e, storedH_cons_eq (show (k', a', u').1 = k from e) (by rw [zip3_keys t, ← e]; exact hn.1)]
      exact ⟨u :: _, .cons ru t, by rw [zip3]⟩
    · rw [if_neg e, storedH_cons_ne (show ¬ (k', a', u').1 = k from e)]
      obtain ⟨us', h1, h2⟩ := stored_zip ru t hn.2
      exact ⟨u' :: us', .cons r h1, by rw [h2, zip3]⟩
theorem KtR.put {ks : List D} {d : D} {a : Addr} {v : V} (hk : okKey (.tup ks) = true) (hr : Rep (gx X FA) θ H (.tup ks) (.ref a)) (hv : Rep (gx X FA) θ H d v) : ∀ {kvs : List (D × D)} {es : List KE3}, KtR (gx X FA) θ H kvs es →
    KtR (gx X FA) θ H (putD (.tup ks) d kvs) (putE (D.nk (.tup ks)) a v es)
  | _, _, .nil => .cons hk hr hv .nil
  | _, _, .cons h0 h h' r => by
    rw [putD, putE]
    rename_i ks' d' a' v' kvs es
    by_cases e : D.tup ks' = .tup ks
    · rw [if_pos e, if_pos ((nk_iff h0 hk).mpr e)]
      exact .cons h0 h hv r
    · rw [if_neg e, if_neg fun q => e ((nk_iff h0 hk).mp q)]
      exact .cons h0 h h' (r.put hk hr hv)
theorem putD_keys (k v : D) : ∀ kvs : List (D × D), (∀ p, p ∈ (putD k v kvs).map (·.1) → p = k ∨ p ∈ kvs.map (·.1))
  | [], p, h => .inl (by simpa [putD] using h)
  | (a, u) :: r, p, h => by
    rw [putD] at h
    by_cases e : a = k
    · rw [if_pos e, List.map_cons] at h
      exact .inr (by rw [List.map_cons]; exact h)
    · rw [if_neg e, List.map_cons] at h
      rw [List.map_cons]
      rcases List.mem_cons.mp h with h | h
      · exact .inr (h ▸ List.mem_cons_self)
      · exact (putD_keys k v r p h).imp id (List.mem_cons_of_mem _)
theorem putD_nodup (k v : D) : ∀ {kvs : List (D × D)}, (kvs.map (·.1)).Nodup → ((putD k v kvs).map (·.1)).Nodup
  | [], _ => by simp [putD]
  | (a, u) :: r, h => by
    rw [List.map_cons, List.nodup_cons] at h
    rw [putD]
    by_cases e : a = k
    · rw [if_pos e, List.map_cons, List.nodup_cons]; exact h
    · rw [if_neg e, List.map_cons, List.nodup_cons]
      exact ⟨fun q => (putD_keys k v r a q).elim e h.1, putD_nodup k v h.2⟩
theorem putE_length (k : NestedKey) (a : Addr) (v : V) : ∀ es : List KE3, (putE k a v es).length ≤ es.length + 1
  | [] => by simp [putE]
  | (k', a', v') :: r => by
    rw [putE]
    split
    · simp
    · have := putE_length k a v r
      simp only [List.length_cons]
      omega

theorem dictAt_ok {P : Program} {w : World} {h : Heap} {H' : Hp} {a : Addr} {es : List KE3} (x : DictAt w a es h) : ObjOk P w H' h a (.ext (DictAt w a es)) := by
  refine ⟨x, ?_, fun h1 h2 ⟨hz, hs, o, ds, ep, us, e1, e2, e3, e4, e5⟩ k => ⟨hz, hs, o, ds, ep, us, k o e1, e2, e3, e4, e5⟩⟩
  obtain ⟨_, _, o, _, _, _, e1, _⟩ := x
  exact ⟨o, e1⟩
/-- room on the C stack -/
def RoomC (A : Around) : Prop := A.units + 100 < cLine
theorem RoomC.keys {A : Around} {P : Program} {w : World} (h : RoomC A) : (nestedKind P w).room A.in1 := by
  show A.units + 1 + 8 < cLine
  have : A.units + 100 < cLine := h
  omega
theorem RoomC.keys0 {A : Around} {P : Program} {w : World} (h : RoomC A) : (nestedKind P w).room A := by
  show A.units + 8 < cLine
  have : A.units + 100 < cLine := h
  omega
theorem look_some {k : D} (hk : okKey k = true) {kvs : List (D × D)} {es : List KE3} {us : List Value} (h : KtR (gx X FA) θ H kvs es) (t : Paired RelE es us) : (atKey (zip3 es us) (D.nk k)).isSome = (lookD k kvs).isSome := by
  have := atKey_zip hk h t
  cases e : lookD k kvs with
  | some d => rw [e] at this; obtain ⟨_, _, _, q, _⟩ := this; rw [q]; rfl
  | none => rw [e] at this; rw [this]; rfl
section
variable {a b : Addr} {kvs : List (D × D)} {es : List KE3} {k : D} {Q : VK} {E : Value → Shared → Prop} {lk : Bool} (hu : RoomC X.A) (I : Inv X pins τ H s) (ha : DctH X.w H a es lk) (h : KtR (gx X FA) θ H kvs es) (hn : (kvs.map (·.1)).Nodup)
  (hk : okKey k = true) (r : Rep (gx X FA) θ H k (.ref b))
include hu I ha h hn hk r
theorem key_is : (nestedKind X.prog X.w).is s.heap (D.nk k) b := by
  obtain ⟨_, h1, h2⟩ := okKey_inv hk
  exact ⟨r.nested I h1 rfl, by rw [nk_depth _ h1]; exact h2⟩
theorem dict_in (q : Q (.bl (lookD k kvs).isSome) H) : wpAny (model X.prog X.w) X.A (compareOp .In (.ref b) (.ref a)) (EP X pins τ Q) E s := by
  obtain ⟨hz, hs, us, t, hm⟩ := dict_lib I ha h hn
  refine wpAny_in_heap hu.keys (key_is hu I ha h hn hk r) hs hm ⟨.bl _, H, I.tok _, ?_, q⟩
  rw [look_some hk h t]
  rfl
theorem dict_notin (q : Q (.bl (!(lookD k kvs).isSome)) H) : wpAny (model X.prog X.w) X.A (compareOp .NotIn (.ref b) (.ref a)) (EP X pins τ Q) E s := by
  obtain ⟨hz, hs, us, t, hm⟩ := dict_lib I ha h hn
  show wpAny _ _ (do return Value.bool (!(← contains (.ref a) (.ref b)))) _ E s
  refine wpAny_bind (wpAny_contains_heap hu.keys (key_is hu I ha h hn hk r) hs hm (wpAny_pure ⟨.bl _, H, I.tok _, ?_, q⟩))
  rw [look_some hk h t]
  rfl
theorem dict_get {d : D} (hd : lookD k kvs = some d) (q : ∀ v, Rep (gx X FA) θ H d v → Q v H) : wpAny (model X.prog X.w) X.A (getItem (.ref a) (.ref b)) (EP X pins τ Q) E s := by
  obtain ⟨hz, hs, us, t, hm⟩ := dict_lib I ha h hn
  have := atKey_zip hk h t
  rw [hd] at this
  obtain ⟨a', v, u, e1, e2, e3⟩ := this
  exact wpAny_getItem_heap hu.keys (key_is hu I ha h hn hk r) hm e1 ⟨v, H, I.tok _, e2, q v e3⟩
theorem dict_put {d : D} {v : V} {u : Value} {Q : Hp → Prop} (hlk : lk = false) (hl : es.length < sizeLine) (ru : RelV v u) (rv : Rep (gx X FA) θ H d v)
    (q : Q (upd H a (.ext (DictAt X.w a (putE (D.nk k) b v es))))) : wpAny (model X.prog X.w) X.A (setItem (.ref a) (.ref b) u) (fun _ s' => ∃ H', Inv X pins τ H' s' ∧ Q H') E s := by
  obtain ⟨hz, hs, us, t, hm⟩ := dict_lib I ha h hn
  subst hlk
  have ha' : H a = some (.ext (DictAt X.w a es)) := ha
  refine wpAny_setItem_heap hu.keys (key_is hu I ha h hn hk r) hm (fun h' hm' sb => ?_) (by rw [zip3_length t]; exact hz)
  obtain ⟨us', t', e⟩ := stored_zip (k := D.nk k) (a := b) ru t (h.nodup hn)
  rw [e] at hm'
  have hl' := putE_length (D.nk k) b v es
  have dk : DictAt X.w a (putE (D.nk k) b v es) h' := dict_back (by omega) hs t' hm'
  refine ⟨_, I.write (x := a) (e := a) (by rw [ha']; trivial) (.inl rfl) (fun c w hc z => (sb.2 c hc).trans z) ?_ (dictAt_ok dk), q⟩
  obtain ⟨_, _, o, _, _, _, e1, _⟩ := dk
  exact ⟨o, e1⟩
end
theorem ObR.put {a b : Addr} {kvs : List (D × D)} {es : List KE3} {k d : D} {v : V} (h : KtR (gx X FA) θ H kvs es) (hn : (kvs.map (·.1)).Nodup) (hk : okKey k = true) (r : Rep (gx X FA) θ H k (.ref b)) (rv : Rep (gx X FA) θ H d v)
    (e : Ext (gx X FA) θ H θ (upd H a (.ext (DictAt X.w a (putE (D.nk k) b v es))))) : ObR (gx X FA) θ (upd H a (.ext (DictAt X.w a (putE (D.nk k) b v es)))) a (.dct false (putD k d kvs)) := by
  refine ⟨putD_nodup _ _ hn, _, upd_same, ?_⟩
  obtain ⟨⟨ks, rfl⟩, _⟩ := okKey_inv hk
  exact (h.put hk r rv).ext e
/-- a new dict -/
theorem dict_new (I : Inv X pins τ H s) : Inv X pins τ (upd H s.heap.objs.size (.ext (DictAt X.w s.heap.objs.size []))) { s with heap := s.heap.push { cls := .type "dict", data := .dict #[] } } := by
  refine I.laid (t' := s.toks) (fun b o e => Heap.get?_push_of_some _ e) (Nat.le_refl _) (dictAt_ok ?_)
  have hm := Heap.DictOfH.new (knd := nestedKind X.prog X.w) s.heap
  exact dict_back (us := []) (P := X.prog) (Nat.zero_le _) (beq_eq_false_iff_ne.mpr fun e => by have := I.big; rw [e] at this; exact absurd this (by decide)) .nil hm
end
end Nog

set_option Elab.async false
set_option linter.all false
set_option maxRecDepth 100000
set_option maxHeartbeats 1000000
/-! operators -/
namespace Nog
open PySem L2 PyProof.Rows
def opX : Op → Operator
  | .add => .Add | .sub => .Sub | .mul => .Mult | .fdiv => .FloorDiv | .mod => .Mod | .pow => .Pow | .shl => .LShift | .shr => .RShift | .band => .BitAnd | .bor => .BitOr
theorem lim_line : lim = sizeLine := by rw [sizeLine_eq]; rfl

section
variable {G : Gx} {θ : List Addr} {H : Hp} {S : Sto} {W : WX'}
theorem Rep.int_inv {i : Int} {v : V} (h : Rep G θ H (.int i) v) : v = .int i := by rw [Rep] at h; exact h
theorem Rep.bl_inv {b : Bool} {v : V} (h : Rep G θ H (.bl b) v) : v = .bl b := by rw [Rep] at h; exact h
theorem Rep.non_inv {v : V} (h : Rep G θ H .non v) : v = .non := by rw [Rep] at h; exact h
theorem Rep.str_inv {s : List Nat} {v : V} (h : Rep G θ H (.str s) v) : v = .str (toS s) := by rw [Rep] at h; exact h
theorem Rep.tup_inv {ds : List D} {v : V} (h : Rep G θ H (.tup ds) v) : ∃ a vs, v = .ref a ∧ SqT G.K H a vs ∧ RepL G θ H ds vs := by rw [Rep] at h; exact h
theorem Rep.ref_inv {l : Nat} {v : V} (h : Rep G θ H (.ref l) v) : ∃ a, θ[l]? = some a ∧ v = .ref a := by rw [Rep] at h; exact h
theorem Rep.rol_inv {ds : List D} {v : V} (h : Rep G θ H (.rol ds) v) : ∃ a vs, v = .ref a ∧ SqF G.K H a vs ∧ D.plainL ds = true ∧ RepL G θ H ds vs := by rw [Rep] at h; exact h
theorem Rep.int {i : Int} : Rep G θ H (.int i) (.int i) := by rw [Rep]
theorem Rep.bl {b : Bool} : Rep G θ H (.bl b) (.bl b) := by rw [Rep]
theorem Rep.non : Rep G θ H .non .non := by rw [Rep]
theorem Rep.str {s : List Nat} : Rep G θ H (.str s) (.str (toS s)) := by rw [Rep]
theorem Rep.tup {ds : List D} {a : Addr} {vs : List V} (h : SqT G.K H a vs) (r : RepL G θ H ds vs) : Rep G θ H (.tup ds) (.ref a) := by rw [Rep]; exact ⟨a, vs, rfl, h, r⟩
theorem Rep.ref {l : Nat} {a : Addr} (h : θ[l]? = some a) : Rep G θ H (.ref l) (.ref a) := by rw [Rep]; exact ⟨a, h, rfl⟩
theorem RepP.i {H₁ : Hp} {i : Int} {v : V} (h : RepP G H₁ θ H (.val (.int i)) v) : v = .int i := Rep.int_inv (G := G) (θ := θ) (H := H) h
theorem RepP.b {H₁ : Hp} {i : Bool} {v : V} (h : RepP G H₁ θ H (.val (.bl i)) v) : v = .bl i := Rep.bl_inv (G := G) (θ := θ) (H := H) h
theorem RepP.s {H₁ : Hp} {i : List Nat} {v : V} (h : RepP G H₁ θ H (.val (.str i)) v) : v = .str (toS i) := Rep.str_inv (G := G) (θ := θ) (H := H) h
theorem RepP.t {H₁ : Hp} {ds : List D} {v : V} (h : RepP G H₁ θ H (.val (.tup ds)) v) : ∃ a vs, v = .ref a ∧ SqT G.K H a vs ∧ RepL G θ H ds vs := Rep.tup_inv (G := G) (θ := θ) (H := H) h
theorem RepP.r {H₁ : Hp} {l : Nat} {v : V} (h : RepP G H₁ θ H (.val (.ref l)) v) : ∃ a, θ[l]? = some a ∧ v = .ref a := Rep.ref_inv (G := G) (θ := θ) (H := H) h
/-- a new tuple at a place that was free -/
theorem Rep.newTup {ds : List D} {vs : List V} {p : Addr} (hp : H p = none) (r : RepL G θ H ds vs) : Rep G θ (upd H p (.tup vs)) (.tup ds) (.ref p) :=
  .tup (.of upd_same) (r.ext (.new hp))
theorem RepP.newLst {ds : List D} {vs : List V} {p : Addr} (m : Sim G θ S H) (hp : H p = none) (r : RepL G θ H ds vs) : RepP G H θ (upd H p (.lst vs)) (.fresh ds) (.ref p) :=
  ⟨p, vs, rfl, upd_same, r.ext (.new hp), m.free hp, hp⟩
theorem Post.val {d : D} {v : V} {Q : VK} (h : Post G W θ H (.ok (.val d) S) Q) (m : Sim G θ S H) (r : Rep G θ H d v) : Q v H := h θ H v .refl m r
theorem Post.newTup {ds : List D} {vs : List V} {p : Addr} {Q : VK} (h : Post G W θ H (.ok (.val (.tup ds)) S) Q) (m : Sim G θ S H) (r : RepL G θ H ds vs) (hp : H p = none) : Q (.ref p) (upd H p (.tup vs)) :=
  h θ _ _ (.new hp) (m.new hp) (Rep.newTup hp r)
theorem Post.newLst {ds : List D} {vs : List V} {p : Addr} {Q : VK} (h : Post G W θ H (.ok (.fresh ds) S) Q) (m : Sim G θ S H) (r : RepL G θ H ds vs) (hp : H p = none) : Q (.ref p) (upd H p (.lst vs)) :=
  h θ _ _ (.new hp) (m.new hp) (RepP.newLst m hp r)
/-- a list, by what the store says -/
theorem lst_of {H₁ : Hp} {p : Pv} {x : V} {xs : List D} (m : Sim G θ S H) (rp : RepP G H₁ θ H p x) (e : p.lstItems S = some xs) :
    ∃ a vs, x = .ref a ∧ RepL G θ H xs vs ∧ (H a = some (.lst vs) ∨ SqF G.K H a vs) := by
  cases p with
  | fresh ds =>
    simp [Pv.lstItems] at e
    subst e
    obtain ⟨a, vs, h1, h2, h3, _⟩ := rp
    exact ⟨a, vs, h1, h3, .inl h2⟩
  | val d =>
    cases d with
    | ref l =>
      obtain ⟨a, h1, h2⟩ := RepP.r rp
      simp only [Pv.lstItems] at e
      split at e
      · rename_i ys q
        simp at e; subst e
        obtain ⟨vs, h3, h4⟩ := m.ob l a _ h1 q
        exact ⟨a, vs, h2, h4, .inl h3⟩
      · cases e
    | rol ds =>
      simp [Pv.lstItems] at e
      subst e
      obtain ⟨a, vs, h1, h2, h3, h4⟩ := Rep.rol_inv (G := G) (H := H) rp
      exact ⟨a, vs, h1, h4, .inr h2⟩
    | _ => simp [Pv.lstItems] at e
  | rng lo hi => simp [Pv.lstItems] at e
  | its xs hs => simp [Pv.lstItems] at e
theorem mut_of {H₁ : Hp} {p : Pv} {x : V} {xs : List D} (m : Sim G θ S H) (rp : RepP G H₁ θ H p x) (e : p.mutItems S = some xs) :
    ∃ a vs, x = .ref a ∧ RepL G θ H xs vs ∧ H a = some (.lst vs) := by
  cases p with
  | fresh ds =>
    simp [Pv.mutItems] at e
    subst e
    obtain ⟨a, vs, h1, h2, h3, _⟩ := rp
    exact ⟨a, vs, h1, h3, h2⟩
  | val d =>
    cases d with
    | ref l =>
      obtain ⟨a, h1, h2⟩ := RepP.r rp
      simp only [Pv.mutItems] at e
      split at e
      · rename_i ys q
        simp at e; subst e
        obtain ⟨vs, h3, h4⟩ := m.ob l a _ h1 q
        exact ⟨a, vs, h2, h4, h3⟩
      · cases e
    | _ => simp [Pv.mutItems] at e
  | rng lo hi => simp [Pv.mutItems] at e
  | its xs hs => simp [Pv.mutItems] at e
theorem lst_sq {K : PySem.W.Frag} {a : Addr} {vs : List V} (h : H a = some (.lst vs) ∨ SqF K H a vs) : SqL K H a vs := h.elim .of SqF.sq
theorem RepL.rep {ds : List D} {vs : List V} (h : RepL G θ H ds vs) : ∀ n : Nat, RepL G θ H (Nog.rep ds n) (List.replicate n vs).flatten
  | 0 => by rw [Nog.rep]; exact .nil
  | n + 1 => by rw [Nog.rep, List.replicate_succ, List.flatten_cons]; exact h.append (h.rep n)
end

/-- what an operator does, by cases -/
inductive OpCase (o : Op) (S : Sto) : Pv → Pv → Rs Pv → Prop
  | oc1 {i j k : Int} : opI o i j = some k → OpCase o S (.val (.int i)) (.val (.int j)) (.ok (.val (.int k)) S)
  | oc2 {xs ys : List D} : o = .add → fits (xs ++ ys) = true → OpCase o S (.val (.tup xs)) (.val (.tup ys)) (.ok (.val (.tup (xs ++ ys))) S)
  | oc3 {xs : List D} {j : Int} : o = .mul → -1000 ≤ j → j ≤ 1000 → xs.length ≤ 1000 → OpCase o S (.val (.tup xs)) (.val (.int j)) (.ok (.val (.tup (rep xs j.toNat))) S)
  | oc4 {xs ys : List Nat} : o = .add → fits (xs ++ ys) = true → OpCase o S (.val (.str xs)) (.val (.str ys)) (.ok (.val (.str (xs ++ ys))) S)
  | oc5 {p q : Pv} {xs ys : List D} : o = .add → p.mutItems S = some xs → q.mutItems S = some ys → fits (xs ++ ys) = true → OpCase o S p q (.ok (.fresh (xs ++ ys)) S)
  | oc6 {p : Pv} {xs : List D} {j : Int} : o = .mul → p.mutItems S = some xs → -1000000 ≤ j → j ≤ 1000000 → xs.length * j.toNat ≤ lim → OpCase o S p (.val (.int j)) (.ok (.fresh (rep xs j.toNat)) S)
theorem opB_case (o : Op) (S : Sto) (p q : Pv) (h : opB o S p q ≠ .no) : OpCase o S p q (opB o S p q) := by
  unfold opB at h ⊢
  split at h
  · split at h
    · rename_i k e
      exact .oc1 e
    · exact absurd rfl h
  · split at h
    · split at h
      · rename_i e
        rw [if_pos e]
        exact .oc2 rfl e
      · exact absurd rfl h
    · exact absurd rfl h
  · split at h
    · split at h
      · rename_i e
        rw [if_pos e]
        simp only [Bool.and_eq_true, decide_eq_true_eq] at e
        exact .oc3 rfl e.1.1 e.1.2 e.2
      · exact absurd rfl h
    · exact absurd rfl h
  · split at h
    · split at h
      · rename_i e
        rw [if_pos e]
        exact .oc4 rfl e
      · exact absurd rfl h
    · exact absurd rfl h
  · split at h
    · split at h
      · rename_i xs ys e1 e2
        split at h
        · rename_i e3
          rw [if_pos e3]
          exact .oc5 rfl e1 e2 e3
        · exact absurd rfl h
      · exact absurd rfl h
    · split at h
      · rename_i xs j _ _
        split at h
        · rename_i e3
          rw [if_pos e3]
          simp only [Bool.and_eq_true, decide_eq_true_eq] at e3
          exact .oc6 rfl (by assumption) e3.1.1 e3.1.2 e3.2
        · exact absurd rfl h
      · exact absurd rfl h
    · exact absurd rfl h

section
variable {X : Cx} {FA : Nat → Option Addr} {W : WX'}
/-- an operator of two ints -/
theorem int_op {o : Op} {i j k : Int} (e : opI o i j = some k) {pins : List (Addr × Obj)} {s : Shared} {τ : L2.St} {H : Hp} {v u : Value} {Q : VK} (I : Inv X pins τ H s) (rx : RelV (.int i) v) (ry : RelV (.int j) u) (q : Q (.int k) H) :
    wpAny (model X.prog X.w) X.A (binaryOp (opX o) v u) (EP X pins τ Q) X.xe s := by
  cases o with
  | add => simp [opI] at e; subst e; exact op_add pins s τ H _ _ v u Q I rx ry ⟨i, j, rfl, rfl, q⟩
  | sub => simp [opI] at e; subst e; exact op_sub pins s τ H _ _ v u Q I rx ry ⟨i, j, rfl, rfl, q⟩
  | mul =>
    simp only [opI] at e
    split at e
    · rename_i c
      simp at e; subst e
      simp only [mulOk, Bool.or_eq_true, decide_eq_true_eq] at c
      rcases c with (c | c) | c
      · exact op_mul pins s τ H _ _ v u Q I rx ry ⟨i, j, rfl, rfl, .inl (by omega), q⟩
      · exact op_mul pins s τ H _ _ v u Q I rx ry ⟨i, j, rfl, rfl, .inr (by omega), q⟩
      · exact op_mulW pins s τ H _ _ v u Q I rx ry ⟨i, j, rfl, rfl, c, q⟩
    · cases e
  | fdiv =>
    simp only [opI] at e
    split at e
    · rename_i c
      simp at e; subst e
      simp only [Bool.and_eq_true, decide_eq_true_eq] at c
      exact op_fdivW pins s τ H _ _ v u Q I rx ry ⟨i, j, rfl, rfl, c, q⟩
    · cases e
  | mod =>
    simp only [opI] at e
    split at e
    · rename_i c
      simp at e; subst e
      exact op_mod pins s τ H _ _ v u Q I rx ry ⟨i, j, rfl, rfl, c, q⟩
    · cases e
  | pow =>
    simp only [opI] at e
    split at e
    · rename_i c
      simp at e; subst e
      simp only [Bool.and_eq_true, decide_eq_true_eq] at c
      obtain ⟨t, rfl⟩ := rx
      obtain ⟨t', rfl⟩ := ry
      refine pow_int c.1.1 ?_ ⟨.int _, H, I.tok _, ⟨_, rfl⟩, q⟩
      have hb : Builtin.Int.intBits i ≤ 500 := by
        unfold Builtin.Int.intBits
        split <;> omega
      have h1 : (Builtin.Int.intBits i : Int) * j ≤ 500 * j := Int.mul_le_mul_of_nonneg_right (by omega) c.1.1
      have h2 := c.1.2
      have h3 : (2 : Int) ^ 27 = 134217728 := by decide
      omega
    · cases e
  | shl =>
    simp only [opI] at e
    split at e
    · rename_i c
      simp at e; subst e
      simp only [Bool.and_eq_true, decide_eq_true_eq] at c
      exact op_shl pins s τ H _ _ v u Q I rx ry ⟨i, j, rfl, rfl, ⟨c.1.1, c.1.2, c.2⟩, q⟩
    · cases e
  | shr =>
    simp only [opI] at e
    split at e
    · rename_i c
      simp at e; subst e
      exact op_shr pins s τ H _ _ v u Q I rx ry ⟨i, j, rfl, rfl, c, q⟩
    · cases e
  | band =>
    simp only [opI] at e
    split at e
    · rename_i c
      simp at e; subst e
      simp only [Bool.and_eq_true, decide_eq_true_eq] at c
      refine op_and pins s τ H _ _ v u Q I rx ry ⟨i, j, rfl, rfl, ?_⟩
      have e : Builtin.bitAnd i j = ((i.toNat &&& j.toNat : Nat) : Int) := by
        unfold Builtin.bitAnd
        simp [c.1, c.2]
      show Q (V.int (Builtin.bitAnd i j)) H
      rw [e]; exact q
    · cases e
  | bor => simp [opI] at e
theorem or_bin (o : Op) : OpR X (binaryOp (opX o)) (K2 (gx X FA) W (fun p q S => opB o S p q)) := by
  intro pins s τ H x y v u Q I rx ry h
  obtain ⟨p, q, θ, S, H₁, H₂, m, rp, rq, h⟩ := h
  replace h : Post (gx X FA) W θ H (opB o S p q) Q := h
  have hn : opB o S p q ≠ .no := fun e => by rw [e] at h; exact h
  have c := opB_case o S p q hn
  generalize opB o S p q = r at c h
  cases c with
  | oc1 e =>
    obtain rfl := RepP.i rp
    obtain rfl := RepP.i rq
    exact int_op e I rx ry (h.val m .int)
  | @oc2 xs ys e1 e2 =>
    subst e1
    obtain ⟨a, vs, rfl, h2, h3⟩ := RepP.t rp
    obtain ⟨b, us, rfl, h4, h5⟩ := RepP.t rq
    have l1 := h3.length
    have l2 := h5.length
    simp only [fits, decide_eq_true_eq, List.length_append, lim_line] at e2
    refine op_catA pins s τ H _ _ v u Q I rx ry ⟨a, b, vs, us, rfl, rfl, h2, h4, by omega, fun z => ?_, fun z z2 => ?_, fun _ _ p hp => h.newTup m (h3.append h5) hp⟩
    · subst z
      have : xs = [] := List.eq_nil_of_length_eq_zero (by simpa using l1.symm)
      subst this
      exact h.val m rq
    · subst z2
      have : ys = [] := List.eq_nil_of_length_eq_zero (by simpa using l2.symm)
      subst this
      rw [List.append_nil] at h
      exact h.val m rp
  | @oc3 xs j e1 e2 e3 e4 =>
    subst e1
    obtain ⟨a, vs, rfl, h2, h3⟩ := RepP.t rp
    obtain rfl := RepP.i rq
    have l1 := h3.length
    by_cases hs : vs = [] ∨ j = 1
    · refine op_repS pins s τ H _ _ v u Q I rx ry ⟨a, j, vs, rfl, rfl, h2, by omega, by omega, hs, ?_⟩
      have e : rep xs j.toNat = xs := by
        rcases hs with rfl | rfl
        · have : xs = [] := List.eq_nil_of_length_eq_zero (by simpa using l1.symm)
          subst this
          generalize j.toNat = n
          induction n with
          | zero => rfl
          | succ n ih => rw [rep, ih]; rfl
        · show xs ++ [] = xs
          simp
      rw [e] at h
      exact h.val m rp
    · have hs1 : vs ≠ [] := fun z => hs (.inl z)
      have hs2 : j ≠ 1 := fun z => hs (.inr z)
      by_cases hz : j ≤ 0
      · refine op_repZ pins s τ H _ _ v u Q I rx ry ⟨a, j, vs, rfl, rfl, h2, hs1, by omega, hz, fun p hp => ?_⟩
        have e : rep xs j.toNat = [] := by
          have : j.toNat = 0 := by omega
          rw [this]; rfl
        rw [e] at h
        exact h.newTup m .nil hp
      · exact op_repT pins s τ H _ _ v u Q I rx ry ⟨a, j, vs, rfl, rfl, h2, hs1, by omega, e3, by omega, fun p hp => h.newTup m (h3.rep _) hp⟩
  | @oc4 xs ys e1 e2 =>
    subst e1
    obtain rfl := RepP.s rp
    obtain rfl := RepP.s rq
    simp only [fits, decide_eq_true_eq, List.length_append, lim_line] at e2
    refine op_add_str pins s τ H _ _ v u Q I rx ry ⟨toS xs, toS ys, rfl, rfl, ?_, ?_⟩
    · show (toS xs).cps.size + (toS ys).cps.size ≤ _
      simpa [toS] using e2
    · have : toS xs ++ toS ys = toS (xs ++ ys) := by
        show Str.append (toS xs) (toS ys) = _
        simp [Str.append, toS]
      rw [this]
      exact h.val m .str
  | @oc5 p q xs ys e1 e2 e3 e4 =>
    subst e1
    obtain ⟨a, vs, rfl, h2, h3⟩ := mut_of m rp e2
    obtain ⟨b, us, rfl, h4, h5⟩ := mut_of m rq e3
    have l1 := h2.length
    have l2 := h4.length
    simp only [fits, decide_eq_true_eq, List.length_append, lim_line] at e4
    exact op_cat pins s τ H _ _ v u Q I rx ry ⟨a, b, vs, us, rfl, rfl, h3, h5, by omega, fun p hp => h.newLst m (h2.append h4) hp⟩
  | @oc6 p xs j e1 e2 e3 e4 e5 =>
    subst e1
    obtain ⟨a, vs, rfl, h2, h3⟩ := mut_of m rp e2
    obtain rfl := RepP.i rq
    have l1 := h2.length
    rw [lim_line] at e5
    exact op_rep pins s τ H _ _ v u Q I rx ry ⟨a, j, vs, rfl, rfl, h3, by omega, by omega, by rw [l1]; exact e5, fun p hp => h.newLst m (h2.rep _) hp⟩

mutual
theorem alike_symm : ∀ d e : D, D.alike d e = D.alike e d
  | .non, e => by cases e <;> simp [D.alike]
  | .bl _, e => by cases e <;> simp [D.alike]
  | .int _, e => by cases e <;> simp [D.alike]
  | .str _, e => by cases e <;> simp [D.alike]
  | .tup xs, e => by
    cases e <;> simp [D.alike]
    exact alikeL_symm xs _
  | .ref _, e => by cases e <;> simp [D.alike]
  | .fn _, e => by cases e <;> simp [D.alike]
  | .rol _, e => by cases e <;> simp [D.alike]
theorem alikeL_symm : ∀ ds es : List D, D.alikeL ds es = D.alikeL es ds
  | [], es => by cases es <;> simp [D.alikeL]
  | x :: xs, [] => by simp [D.alikeL]
  | x :: xs, y :: ys => by rw [D.alikeL, D.alikeL, alike_symm x y, alikeL_symm xs ys]
end
theorem alike_ne {d e : D} (h : D.alike d e = true) (n : d ≠ .non) : e ≠ .non := by
  rintro rfl
  cases d <;> simp [D.alike] at h
  exact n rfl
theorem py_ne {d : D} (hp : D.plain d = true) (n : d ≠ .non) : D.py d ≠ .none := by
  cases d <;> simp [D.py, D.plain] at hp n ⊢
/-! ### comparisons -/
def cmX : Cm → CmpOp
  | .eq => .Eq | .ne => .NotEq | .lt => .Lt | .le => .LtE | .gt => .Gt | .ge => .GtE | .inn => .In | .notin => .NotIn | .is => .Is | .isnt => .IsNot
theorem Post.bl {θ : List Addr} {H : Hp} {S : Sto} {b : Bool} {Q : VK} {G : Gx} (h : Post G W θ H (.ok (.val (.bl b)) S) Q) (m : Sim G θ S H) : Q (.bl b) H := h.val m .bl
theorem Rep.reads {d : D} {v : V} {u : Value} {θ : List Addr} {pins : List (Addr × Obj)} {s : Shared} {τ : L2.St} {H : Hp} (I : Inv X pins τ H s) (hp : D.plain d = true) (r : Rep (gx X FA) θ H d v) (ru : RelV v u) : ∃ as, Reads s.heap u (D.py d) as :=
  Dp.reads I (D.py d) v u (r.dp hp) ru
theorem lst_reads {xs : List D} {a : Addr} {vs : List V} {θ : List Addr} {pins : List (Addr × Obj)} {s : Shared} {τ : L2.St} {H : Hp} (I : Inv X pins τ H s) (hp : D.plainL xs = true) (r : RepL (gx X FA) θ H xs vs) (hs : SqL X.K H a vs) : ∃ as, Reads s.heap (.ref a) (.list (D.pyL xs)) as :=
  Dp.reads I (.list (D.pyL xs)) (.ref a) (.ref a) (.lst hs (r.dp hp)) rfl
/-- == by cases -/
theorem eqP_case {S : Sto} {p q : Pv} {b : Bool} (h : eqP S p q = some b) :
    (∃ xs ys, p.lstItems S = some xs ∧ q.lstItems S = some ys ∧ D.plainL xs = true ∧ D.plainL ys = true ∧ D.depthL xs ≤ 60 ∧ D.depthL ys ≤ 60 ∧ b = D.eqbL xs ys) ∨
    (∃ x y, p = .val x ∧ q = .val y ∧ D.plain x = true ∧ D.plain y = true ∧ D.depth x ≤ 60 ∧ D.depth y ≤ 60 ∧ b = D.eqb x y) := by
  unfold eqP at h
  split at h
  · rename_i xs ys e1 e2
    split at h
    · rename_i c
      simp only [Bool.and_eq_true, decide_eq_true_eq] at c
      simp at h
      exact .inl ⟨xs, ys, e1, e2, c.1.1.1, c.1.1.2, c.1.2, c.2, h.symm⟩
    · cases h
  · split at h
    · rename_i x y _
      split at h
      · rename_i c
        simp only [Bool.and_eq_true, decide_eq_true_eq] at c
        simp at h
        exact .inr ⟨x, y, rfl, rfl, c.1.1.1, c.1.1.2, c.1.2, c.2, h.symm⟩
      · cases h
    · cases h
theorem eqbL_py {xs ys : List D} (h1 : D.plainL xs = true) (h2 : D.plainL ys = true) : PyData.eqv (.list (D.pyL xs)) (.list (D.pyL ys)) = D.eqbL xs ys := by
  rw [PyData.eqv, pyL_eqv xs ys h1 h2]
/-- two values are read as data -/
theorem eq_reads {S : Sto} {p q : Pv} {b : Bool} {x y : V} {v u : Value} {θ : List Addr} {H₁ H₂ : Hp} {pins : List (Addr × Obj)} {s : Shared} {τ : L2.St} {H : Hp} (I : Inv X pins τ H s) (m : Sim (gx X FA) θ S H)
    (rp : RepP (gx X FA) H₁ θ H p x) (rq : RepP (gx X FA) H₂ θ H q y) (rx : RelV x v) (ry : RelV y u) (h : eqP S p q = some b) :
    ∃ da db as bs, Reads s.heap v da as ∧ Reads s.heap u db bs ∧ da.plain = true ∧ db.plain = true ∧ da.depth ≤ 61 ∧ PyData.eqv da db = b := by
  rcases eqP_case h with ⟨xs, ys, e1, e2, c1, c2, c3, c4, rfl⟩ | ⟨dx, dy, rfl, rfl, c1, c2, c3, c4, rfl⟩
  · obtain ⟨a, vs, rfl, h2, h3⟩ := lst_of m rp e1
    obtain ⟨b, us, rfl, h4, h5⟩ := lst_of m rq e2
    cases rx
    cases ry
    obtain ⟨as, r1⟩ := lst_reads I c1 h2 (lst_sq h3)
    obtain ⟨bs, r2⟩ := lst_reads I c2 h4 (lst_sq h5)
    refine ⟨_, _, as, bs, r1, r2, ?_, ?_, ?_, eqbL_py c1 c2⟩
    · rw [PyData.plain]; exact pyL_plain xs
    · rw [PyData.plain]; exact pyL_plain ys
    · rw [PyData.depth, pyL_depth]; omega
  · obtain ⟨as, r1⟩ := Rep.reads I c1 (show Rep (gx X FA) θ H dx x from rp) rx
    obtain ⟨bs, r2⟩ := Rep.reads I c2 (show Rep (gx X FA) θ H dy y from rq) ry
    exact ⟨_, _, as, bs, r1, r2, py_plain dx, py_plain dy, by rw [py_depth]; omega, py_eqv dx dy c1 c2⟩
theorem ordP_case {S : Sto} {f : D → D → Bool} {p q : Pv} {b : Bool} (h : ordP S f p q = some b) :
    ∃ x y, p = .val x ∧ q = .val y ∧ D.plain x = true ∧ D.plain y = true ∧ D.alike x y = true ∧ x ≠ .non ∧ D.depth x ≤ 60 ∧ b = f x y := by
  unfold ordP at h
  split at h
  · rename_i x y
    split at h
    · rename_i c
      simp only [okOrd, Bool.and_eq_true, decide_eq_true_eq] at c
      simp at h
      exact ⟨x, y, rfl, rfl, c.1.1.1.1.1, c.1.1.1.1.2, c.1.1.1.2, c.1.1.2, c.1.2, h.symm⟩
    · cases h
  · cases h

theorem inP_case {S : Sto} {p q : Pv} {b : Bool} (h : inP S p q = some b) :
    (∃ x l lk kvs, p = .val x ∧ q = .val (.ref l) ∧ S[l]? = some (.dct lk kvs) ∧ okKey x = true ∧ b = (lookD x kvs).isSome) ∨
    (∃ x l xs, p = .val x ∧ q = .val (.ref l) ∧ S[l]? = some (.set xs)) ∨
    (∃ x xs, p = .val x ∧ (q.lstItems S = some xs ∨ q = .val (.tup xs)) ∧ D.plain x = true ∧ D.plainL xs = true ∧ D.depth x ≤ 60 ∧ D.depthL xs ≤ 60 ∧ b = memb x xs) := by
  unfold inP at h
  split at h
  · rename_i x l
    split at h
    · rename_i xs e
      split at h
      · rename_i c
        simp only [Bool.and_eq_true, decide_eq_true_eq] at c
        simp at h
        exact .inr (.inr ⟨x, xs, rfl, .inl (by simp [Pv.lstItems, e]), c.1.1.1, c.1.1.2, c.1.2, c.2, h.symm⟩)
      · cases h
    · rename_i lk kvs e
      split at h
      · rename_i c
        rw [any_look] at h
        simp at h
        exact .inl ⟨x, l, lk, kvs, rfl, rfl, e, c, h.symm⟩
      · cases h
    · rename_i xs e
      exact .inr (.inl ⟨x, l, xs, rfl, rfl, e⟩)
    · cases h
  · rename_i x xs
    split at h
    · rename_i c
      simp only [Bool.and_eq_true, decide_eq_true_eq] at c
      simp at h
      exact .inr (.inr ⟨x, xs, rfl, .inl rfl, c.1.1.1, c.1.1.2, c.1.2, c.2, h.symm⟩)
    · cases h
  · rename_i x xs
    split at h
    · rename_i c
      simp only [Bool.and_eq_true, decide_eq_true_eq] at c
      simp at h
      exact .inr (.inr ⟨x, xs, rfl, .inr rfl, c.1.1.1, c.1.1.2, c.1.2, c.2, h.symm⟩)
    · cases h
  · cases h
theorem RoomC.le {A : Around} (h : RoomC A) : A.units + 100 < cLine := h
section
variable {S : Sto} {p q : Pv} {b : Bool} {x y : V} {v u : Value} {θ : List Addr} {H₁ H₂ : Hp} {pins : List (Addr × Obj)} {s : Shared} {τ : L2.St} {H : Hp} {Q : VK} (hu : RoomC X.A) (I : Inv X pins τ H s) (m : Sim (gx X FA) θ S H)
  (rp : RepP (gx X FA) H₁ θ H p x) (rq : RepP (gx X FA) H₂ θ H q y) (rx : RelV x v) (ry : RelV y u)
include hu I m rp rq rx ry
/-- a list or a tuple in which one looks -/
theorem in_seq {d : D} {xs : List D} (e : p = .val d) (hq : q.lstItems S = some xs ∨ q = .val (.tup xs)) (c1 : D.plain d = true) (c2 : D.plainL xs = true) (c3 : D.depth d ≤ 60) :
    ∃ as bs, (Reads s.heap u (.list (D.pyL xs)) as ∨ Reads s.heap u (.tuple (D.pyL xs)) as) ∧ Reads s.heap v (D.py d) bs ∧ X.A.units + 1 + min (PyData.depthAll (D.pyL xs)) (D.py d).depth < cLine ∧ ((D.pyL xs).any fun y => PyData.eqv y (D.py d)) = memb d xs := by
  subst e
  obtain ⟨bs, r1⟩ := Rep.reads I c1 (show Rep (gx X FA) θ H d x from rp) rx
  have hd : X.A.units + 1 + min (PyData.depthAll (D.pyL xs)) (D.py d).depth < cLine := by
    rw [py_depth]
    have := hu.le
    omega
  rcases hq with hq | rfl
  · obtain ⟨a, vs, rfl, h2, h3⟩ := lst_of m rq hq
    cases ry
    obtain ⟨as, r2⟩ := lst_reads I c2 h2 (lst_sq h3)
    exact ⟨as, bs, .inl r2, r1, hd, any_py c1 c2⟩
  · obtain ⟨as, r2⟩ := Rep.reads I (show D.plain (.tup xs) = true from c2) (show Rep (gx X FA) θ H (.tup xs) y from rq) ry
    exact ⟨as, bs, .inr r2, r1, hd, any_py c1 c2⟩
theorem cm_in (e : inP S p q = some b) (k : Q (.bl b) H) : wpAny (model X.prog X.w) X.A (compareOp .In v u) (EP X pins τ Q) X.xe s := by
  rcases inP_case e with ⟨d, l, lk, kvs, rfl, rfl, e1, hk, rfl⟩ | ⟨_, l, xs, rfl, rfl, e1⟩ | ⟨d, xs, hp, hq, c1, c2, c3, c4, rfl⟩
  · obtain ⟨a, h1, rfl⟩ := RepP.r rq
    obtain ⟨hn, es, h2, h3⟩ := m.ob l a _ h1 e1
    obtain ⟨⟨ks, rfl⟩, _⟩ := okKey_inv hk
    obtain ⟨c, vs, rfl, h4, h5⟩ := RepP.t rp
    cases rx
    cases ry
    exact dict_in hu I h2 h3 hn hk (.tup h4 h5) k
  · obtain ⟨a, h1, rfl⟩ := RepP.r rq
    exact (m.ob l a _ h1 e1).elim
  · obtain ⟨as, bs, hr, r1, hd, ha⟩ := in_seq hu I m rp rq rx ry hp hq c1 c2 c3
    rcases hr with hr | hr
    · exact SeqAt.in_list_data hr r1 (pyL_plain xs) (py_plain d) hd ⟨.bl _, H, I, by rw [ha]; rfl, k⟩
    · exact SeqAt.in_tuple_data hr r1 (pyL_plain xs) (py_plain d) hd ⟨.bl _, H, I, by rw [ha]; rfl, k⟩
theorem cm_notin (e : inP S p q = some b) (k : Q (.bl (!b)) H) : wpAny (model X.prog X.w) X.A (compareOp .NotIn v u) (EP X pins τ Q) X.xe s := by
  rcases inP_case e with ⟨d, l, lk, kvs, rfl, rfl, e1, hk, rfl⟩ | ⟨_, l, xs, rfl, rfl, e1⟩ | ⟨d, xs, hp, hq, c1, c2, c3, c4, rfl⟩
  · obtain ⟨a, h1, rfl⟩ := RepP.r rq
    obtain ⟨hn, es, h2, h3⟩ := m.ob l a _ h1 e1
    obtain ⟨⟨ks, rfl⟩, _⟩ := okKey_inv hk
    obtain ⟨c, vs, rfl, h4, h5⟩ := RepP.t rp
    cases rx
    cases ry
    exact dict_notin hu I h2 h3 hn hk (.tup h4 h5) k
  · obtain ⟨a, h1, rfl⟩ := RepP.r rq
    exact (m.ob l a _ h1 e1).elim
  · obtain ⟨as, bs, hr, r1, hd, ha⟩ := in_seq hu I m rp rq rx ry hp hq c1 c2 c3
    rcases hr with hr | hr
    · exact SeqAt.notIn_list_data hr r1 (pyL_plain xs) (py_plain d) hd ⟨.bl _, H, I, by rw [ha]; rfl, k⟩
    · exact SeqAt.notIn_tuple_data hr r1 (pyL_plain xs) (py_plain d) hd ⟨.bl _, H, I, by rw [ha]; rfl, k⟩
end
theorem isP_case {p q : Pv} {b : Bool} (e : isP p q = some b) : ∃ x y, p = .val (.bl x) ∧ q = .val (.bl y) ∧ b = decide (x = y) := by
  unfold isP at e
  split at e
  · exact ⟨_, _, rfl, rfl, (Option.some.inj e).symm⟩
  · cases e
theorem or_cm (hu : RoomC X.A) (o : Cm) : OpR X (compareOp (cmX o)) (K2 (gx X FA) W (fun p q S => blR S (cmP o S p q))) := by
  intro pins s τ H x y v u Q I rx ry h
  obtain ⟨p, q, θ, S, H₁, H₂, m, rp, rq, h⟩ := h
  replace h : Post (gx X FA) W θ H (blR S (cmP o S p q)) Q := h
  cases e : cmP o S p q with
  | none => rw [e] at h; exact h.elim
  | some b =>
    rw [e] at h
    have k : Q (.bl b) H := Post.bl h m
    have hl := hu.le
    cases o with
    | eq =>
      obtain ⟨da, db, as, bs, r1, r2, c1, c2, c3, rfl⟩ := eq_reads I m rp rq rx ry e
      exact SeqAt.eq_plain r1 r2 c1 c2 (by omega) ⟨.bl _, H, I, rfl, k⟩
    | ne =>
      simp only [cmP, Option.map_eq_some_iff] at e
      obtain ⟨c, e, rfl⟩ := e
      obtain ⟨da, db, as, bs, r1, r2, c1, c2, c3, rfl⟩ := eq_reads I m rp rq rx ry e
      exact SeqAt.ne_plain r1 r2 c1 c2 (by omega) ⟨.bl _, H, I, rfl, k⟩
    | inn => exact cm_in hu I m rp rq rx ry e k
    | is =>
      obtain ⟨a, c, rfl, rfl, rfl⟩ := isP_case e
      replace rp : Rep (gx X FA) θ H (.bl a) x := rp
      replace rq : Rep (gx X FA) θ H (.bl c) y := rq
      rw [Rep] at rp rq
      exact op_isBl pins s τ H x y v u Q I rx ry ⟨a, c, rp, rq, k⟩
    | isnt =>
      simp only [cmP, Option.map_eq_some_iff] at e
      obtain ⟨z, e, rfl⟩ := e
      obtain ⟨a, c, rfl, rfl, rfl⟩ := isP_case e
      replace rp : Rep (gx X FA) θ H (.bl a) x := rp
      replace rq : Rep (gx X FA) θ H (.bl c) y := rq
      rw [Rep] at rp rq
      exact op_notBl pins s τ H x y v u Q I rx ry ⟨a, c, rp, rq, k⟩
    | notin =>
      simp only [cmP, Option.map_eq_some_iff] at e
      obtain ⟨c, e, rfl⟩ := e
      exact cm_notin hu I m rp rq rx ry e k
    | lt =>
      obtain ⟨dx, dy, rfl, rfl, c1, c2, c3, c4, c5, rfl⟩ := ordP_case (S := S) e
      obtain ⟨as, r1⟩ := Rep.reads I c1 (show Rep (gx X FA) θ H dx x from rp) rx
      obtain ⟨bs, r2⟩ := Rep.reads I c2 (show Rep (gx X FA) θ H dy y from rq) ry
      exact PySem.W.lt_data r1 r2 (by rw [py_alike dx dy c1 c2]; exact c3) (py_ne c1 c4) (by rw [py_depth]; omega) ⟨.bl _, H, I, by rw [py_lt dx dy c1 c2 c3 c4]; rfl, k⟩
    | gt =>
      obtain ⟨dx, dy, rfl, rfl, c1, c2, c3, c4, c5, rfl⟩ := ordP_case (S := S) e
      obtain ⟨as, r1⟩ := Rep.reads I c1 (show Rep (gx X FA) θ H dx x from rp) rx
      obtain ⟨bs, r2⟩ := Rep.reads I c2 (show Rep (gx X FA) θ H dy y from rq) ry
      have c6 : D.alike dy dx = true := by rw [alike_symm]; exact c3
      exact PySem.W.gt_data r1 r2 (by rw [py_alike dx dy c1 c2]; exact c3) (py_ne c1 c4) (by rw [py_depth]; omega) ⟨.bl _, H, I, by rw [py_lt dy dx c2 c1 c6 (alike_ne c3 c4)]; rfl, k⟩
    | le =>
      obtain ⟨dx, dy, rfl, rfl, c1, c2, c3, c4, c5, rfl⟩ := ordP_case (S := S) e
      obtain ⟨as, r1⟩ := Rep.reads I c1 (show Rep (gx X FA) θ H dx x from rp) rx
      obtain ⟨bs, r2⟩ := Rep.reads I c2 (show Rep (gx X FA) θ H dy y from rq) ry
      have c6 : D.alike dy dx = true := by rw [alike_symm]; exact c3
      exact PySem.W.le_data r1 r2 (by rw [py_alike dx dy c1 c2]; exact c3) (py_ne c1 c4) (by rw [py_depth]; omega) ⟨.bl _, H, I, by rw [py_lt dy dx c2 c1 c6 (alike_ne c3 c4)]; rfl, k⟩
    | ge =>
      obtain ⟨dx, dy, rfl, rfl, c1, c2, c3, c4, c5, rfl⟩ := ordP_case (S := S) e
      obtain ⟨as, r1⟩ := Rep.reads I c1 (show Rep (gx X FA) θ H dx x from rp) rx
      obtain ⟨bs, r2⟩ := Rep.reads I c2 (show Rep (gx X FA) θ H dy y from rq) ry
      exact PySem.W.ge_data r1 r2 (by rw [py_alike dx dy c1 c2]; exact c3) (py_ne c1 c4) (by rw [py_depth]; omega) ⟨.bl _, H, I, by rw [py_lt dx dy c1 c2 c3 c4]; rfl, k⟩
end
end Nog

set_option Elab.async false
set_option linter.all false
set_option maxRecDepth 100000
set_option maxHeartbeats 1000000
/-! expressions -/
namespace Nog
open PySem L2 PyProof.Rows
def isPlainE : Expr → Bool
  | .Starred .. => false
  | .Slice .. => false
  | .Set .. => false
  | _ => true
theorem star_cons {e : Expr} {es : List Expr} {env : PySem.Env} (h : isPlainE e = true) : starEach (e :: es) env = (false, eval e env) :: starEach es env := by
  cases e <;> first | rfl | cases h
theorem star_plain {env : PySem.Env} {pos : Pos} : ∀ {es : List Expr}, (∀ e ∈ es, isPlainE e = true) → (backTo pos (starEach es env)).any (·.1) = false
  | [], _ => rfl
  | e :: es, h => by
    rw [star_cons (h e List.mem_cons_self)]
    cases es with
    | nil => rfl
    | cons e2 es2 =>
      have ih := star_plain (env := env) (pos := pos) (es := e2 :: es2) fun x hx => h x (List.mem_cons_of_mem _ hx)
      rw [star_cons (h e2 (List.mem_cons_of_mem _ List.mem_cons_self))] at ih ⊢
      exact ih
theorem marks_plain {op : CmpOp} {e : Expr} (h : isPlainE e = true) : behindInMarks op e = false := by
  cases e <;> first | rfl | cases h
theorem ix_plain {e : Expr} (h : isPlainE e = true) : PlainIx e := fun _ _ => by
  cases e <;> first | rfl | cases h
theorem fold_plain {e : Expr} {env : PySem.Env} (h : isPlainE e = true) : ∀ x, foldedSetIterable e env x = pure x := fun _ => by
  cases e <;> first | rfl | cases h

section
variable {X : Cx} {FA : Nat → Option Addr} {W : WX'} {pos : Pos} {a b c : Expr} {ma mb mc : Env → Sto → Rs Pv}
theorem sE_var {i : Nat} {x : Str} {C : Call} (hN : X.N[i]? = some x) (hv : Vis X.env.scope x) (hd : (x == ("__debug__" : Str)) = false) (hcd : (x == ("__classdict__" : Str)) = false) :
    PE X (.Name x pos) (tE (gx X FA) W (ev C (.var i))) :=
  PE.imp (pe_var hN hv hd hcd) fun τ H Q ⟨σ, θ, S, rE, m, h⟩ => by
    rw [ev] at h
    split at h
    · rename_i d e
      obtain ⟨v, h1, h2⟩ := rE.at_ i d e
      exact ⟨v, h1, h.val m h2⟩
    · exact h.elim
theorem sE_lit {e : Expr} {d : D} {v : V} {C : Call} (h : PE X e (tC v)) (r : ∀ θ H, Rep (gx X FA) θ H d v) : PE X e (tE (gx X FA) W (ev C (.lit d))) :=
  PE.imp h fun τ H Q ⟨σ, θ, S, rE, m, h⟩ => by
    rw [ev] at h
    exact h.val m (r θ H)
theorem sE_bin {o : Op} (ha : PE X a (tE (gx X FA) W ma)) (hb : PE X b (tE (gx X FA) W mb)) :
    PE X (.BinOp a (opX o) b pos) (tE (gx X FA) W fun σ S => (ma σ S).bind fun p S1 => (mb σ S1).bind fun q S2 => opB o S2 p q) :=
  PE.imp (pe_op (or_bin o) ha hb) fun τ H Q h => two h
theorem sE_neg (ha : PE X a (tE (gx X FA) W ma)) :
    PE X (.UnaryOp .USub a pos) (tE (gx X FA) W fun σ S => (ma σ S).bind fun p S1 => match p with
    | .val (.int i) => .ok (.val (.int (-i))) S1
    | _ => .no) :=
  PE.imp (pe_un un_neg ha) fun τ H Q h => by
    obtain ⟨σ, θ, S, rE, m, h⟩ := one h
    refine ⟨σ, θ, S, rE, m, h.mono fun x H1 ⟨p, θ1, S1, H₁, m1, r1, h1⟩ => ?_⟩
    dsimp only at h1
    split at h1
    · rename_i i
      obtain rfl := RepP.i r1
      exact ⟨i, rfl, h1.val m1 .int⟩
    · exact h1.elim
/-- truth -/
theorem truth_of {p : Pv} {x : V} {θ : List Addr} {S : Sto} {H H₁ : Hp} {k : Bool} (m : Sim (gx X FA) θ S H) (r : RepP (gx X FA) H₁ θ H p x) (e : p.truth S = some k) : TruV X.K x H k := by
  cases p with
  | val d =>
    cases d with
    | non => obtain rfl := Rep.non_inv (G := gx X FA) (θ := θ) (H := H) r; exact (Option.some.inj e).symm
    | bl b => obtain rfl := RepP.b r; exact (Option.some.inj e).symm
    | int i => obtain rfl := RepP.i r; exact (Option.some.inj e).symm
    | str s =>
      simp only [Pv.truth] at e
      split at e
      · rename_i c
        have e := Option.some.inj e
        obtain rfl := RepP.s r
        simp only [fits, decide_eq_true_eq, lim_line] at c
        refine ⟨by show (toS s).cps.size ≤ _; simpa [toS] using c, ?_⟩
        rw [← e]
        show _ = (((toS s).cps.size : Int) != 0)
        cases s <;> simp [toS]
        omega
      · cases e
    | tup xs =>
      have e : (!xs.isEmpty) = k := Option.some.inj e
      obtain ⟨a, vs, rfl, h2, h3⟩ := RepP.t r
      refine .inr (.inl ⟨vs, h2, ?_⟩)
      have l := h3.length
      rw [← e]
      cases xs <;> cases vs <;> simp at l ⊢
    | ref l =>
      simp only [Pv.truth] at e
      obtain ⟨a, h1, rfl⟩ := RepP.r r
      split at e
      · rename_i xs q
        have e : (!xs.isEmpty) = k := Option.some.inj e
        obtain ⟨vs, h2, h3⟩ := m.ob l a _ h1 q
        refine .inl ⟨vs, .of h2, ?_⟩
        have l := h3.length
        rw [← e]
        cases xs <;> cases vs <;> simp at l ⊢
      · cases e
    | fn k => simp [Pv.truth] at e
    | rol xs => simp [Pv.truth] at e
  | fresh xs =>
    have e : (!xs.isEmpty) = k := Option.some.inj e
    obtain ⟨a, vs, rfl, h2, h3, _⟩ := r
    refine .inl ⟨vs, .of h2, ?_⟩
    have l := h3.length
    rw [← e]
    cases xs <;> cases vs <;> simp at l ⊢
  | rng lo hi => simp [Pv.truth] at e
  | its xs hs => simp [Pv.truth] at e
theorem sE_nt (ha : PE X a (tE (gx X FA) W ma)) : PE X (.UnaryOp .Not a pos) (tE (gx X FA) W fun σ S => (ma σ S).bind fun p S1 => blR S1 ((p.truth S1).map (!·))) :=
  PE.imp (pe_notT ha) fun τ H Q h => by
    obtain ⟨σ, θ, S, rE, m, h⟩ := one h
    refine ⟨σ, θ, S, rE, m, h.mono fun x H1 ⟨p, θ1, S1, H₁, m1, r1, h1⟩ => ?_⟩
    cases e : p.truth S1 with
    | none => simp only [e, Option.map] at h1; exact h1.elim
    | some k =>
      simp only [e, Option.map] at h1
      exact ⟨k, truth_of m1 r1 e, h1.bl m1⟩
theorem sE_cmp (hu : RoomC X.A) {o : Cm} (hp : isPlainE b = true) (ha : PE X a (tE (gx X FA) W ma)) (hb : PE X b (tE (gx X FA) W mb)) :
    PE X (.Compare a [cmX o] [b] pos) (tE (gx X FA) W fun σ S => (ma σ S).bind fun p S1 => (mb σ S1).bind fun q S2 => blR S2 (cmP o S2 p q)) :=
  PE.imp (pe_cmpR (or_cm hu o) ha hb (marks_plain hp)) fun τ H Q h => two h
/-- a op b op' c, by values -/
def chnK (o o' : Cm) (mc : Env → Sto → Rs Pv) (σ : Env) (p q : Pv) (S2 : Sto) : Rs Pv := match cmP o S2 p q with
    | some true => (mc σ S2).bind fun r S3 => blR S3 (cmP o' S3 q r)
    | some false => .ok (.val (.bl false)) S2
    | none => .no
theorem chn_read {o o' : Cm} {τ : L2.St} {H : Hp} {Q : VK} (h : tE (gx X FA) W (fun σ S => (ma σ S).bind fun p S1 => (mb σ S1).bind fun q S2 => chnK o o' mc σ p q S2) τ H Q) :
    tChain (K2 (gx X FA) W (fun p q S => blR S (cmP o S p q))) (K2 (gx X FA) W (fun p q S => blR S (cmP o' S p q))) (tE (gx X FA) W ma) (tE (gx X FA) W mb) (tE (gx X FA) W mc) τ H Q := by
  obtain ⟨σ, θ, S, rE, m, h⟩ := h
  refine ⟨σ, θ, S, rE, m, h.pbind.mono fun x H1 ⟨p, θ1, S1, _, e1, m1, r1, h1⟩ => ⟨σ, θ1, S1, rE.ext e1, m1, h1.pbind.mono fun y H2 ⟨q, θ2, S2, _, e2, m2, r2, h2⟩ => ?_⟩⟩
  refine ⟨p, q, θ2, S2, H, H1, m2, r1.ext e2, r2, ?_⟩
  replace h2 : Post (gx X FA) W θ2 H2 (chnK o o' mc σ p q S2) Q := h2
  unfold chnK at h2
  show Post (gx X FA) W θ2 H2 (blR S2 (cmP o S2 p q)) _
  split at h2
  · rename_i e
    rw [e]
    intro θ3 H3 z e3 m3 r3
    obtain rfl := RepP.b r3
    refine ⟨true, rfl, ?_⟩
    rw [if_pos rfl]
    refine ⟨σ, θ3, S2, ((rE.ext e1).ext e2).ext e3, m3, (Post.rebase e3 h2).pbind.mono fun w' H4 ⟨r, θ4, S4, _, e4, m4, r4, h4⟩ => ?_⟩
    exact ⟨q, r, θ4, S4, H1, H3, m4, (r2.ext e3).ext e4, r4, h4⟩
  · rename_i e
    rw [e]
    intro θ3 H3 z e3 m3 r3
    obtain rfl := RepP.b r3
    refine ⟨false, rfl, ?_⟩
    rw [if_neg Bool.false_ne_true]
    exact h2 θ3 H3 _ e3 m3 r3
  · exact h2.elim
theorem marks2_plain {o o' : CmpOp} (hp : isPlainE c = true) : lastMarks [o, o'] [b, c] = false := by
  show behindInMarks o' c = false
  exact marks_plain hp
theorem sE_chn (hu : RoomC X.A) {o o' : Cm} (hp : isPlainE c = true) (ha : PE X a (tE (gx X FA) W ma)) (hb : PE X b (tE (gx X FA) W mb)) (hc : PE X c (tE (gx X FA) W mc)) :
    PE X (.Compare a [cmX o, cmX o'] [b, c] pos) (tE (gx X FA) W fun σ S => (ma σ S).bind fun p S1 => (mb σ S1).bind fun q S2 => chnK o o' mc σ p q S2) :=
  PE.imp (pe_chain (or_cm hu o) (or_cm hu o') ha hb hc (marks2_plain hp)) fun τ H Q h => chn_read h
theorem isN_of {p : Pv} {x : V} {θ : List Addr} {H H₁ : Hp} (r : RepP (gx X FA) H₁ θ H p x) : decide (x = V.non) = p.isN := by
  cases p with
  | val d =>
    cases d with
    | non => obtain rfl := Rep.non_inv (G := gx X FA) (θ := θ) (H := H) r; rfl
    | bl b => obtain rfl := RepP.b r; rfl
    | int i => obtain rfl := RepP.i r; rfl
    | str s => obtain rfl := RepP.s r; rfl
    | tup xs => obtain ⟨a, vs, rfl, _⟩ := RepP.t r; rfl
    | ref l => obtain ⟨a, _, rfl⟩ := RepP.r r; rfl
    | fn k => obtain ⟨a, _, rfl⟩ := (show ∃ a, FA k = some a ∧ x = .ref a by have r' : Rep (gx X FA) θ H (.fn k) x := r; rw [Rep] at r'; exact r'); rfl
    | rol xs => obtain ⟨a, _, rfl, _⟩ := Rep.rol_inv (G := gx X FA) (θ := θ) (H := H) r; rfl
  | fresh xs => obtain ⟨a, vs, rfl, _⟩ := r; rfl
  | rng lo hi => exact r.elim
  | its xs hs => exact r.elim
theorem sE_isn {j : Nat} {pos' : Pos} (ha : PE X a (tE (gx X FA) W ma)) : PE X (.Compare a [.Is] [.Constant .none j pos'] pos) (tE (gx X FA) W fun σ S => (ma σ S).bind fun p S1 => .ok (.val (.bl p.isN)) S1) :=
  PE.imp (pe_cmp (pc_isN ha)) fun τ H Q h => by
    obtain ⟨σ, θ, S, rE, m, h⟩ := one h
    refine ⟨σ, θ, S, rE, m, h.mono fun x H1 ⟨p, θ1, S1, H₁, m1, r1, h1⟩ => ?_⟩
    rw [isN_of r1]
    exact h1.bl m1
theorem sE_nisn {j : Nat} {pos' : Pos} (ha : PE X a (tE (gx X FA) W ma)) : PE X (.Compare a [.IsNot] [.Constant .none j pos'] pos) (tE (gx X FA) W fun σ S => (ma σ S).bind fun p S1 => .ok (.val (.bl (!p.isN))) S1) :=
  PE.imp (pe_cmp (pc_notN ha)) fun τ H Q h => by
    obtain ⟨σ, θ, S, rE, m, h⟩ := one h
    refine ⟨σ, θ, S, rE, m, h.mono fun x H1 ⟨p, θ1, S1, H₁, m1, r1, h1⟩ => ?_⟩
    rw [isN_of r1]
    exact h1.bl m1
/-- a and b, a or b, as values -/
def anK (mb : Env → Sto → Rs Pv) (σ : Env) (p : Pv) (S1 : Sto) : Rs Pv := match p.truth S1 with
    | some true => mb σ S1
    | some false => .ok p S1
    | none => .no
def orK (mb : Env → Sto → Rs Pv) (σ : Env) (p : Pv) (S1 : Sto) : Rs Pv := match p.truth S1 with
    | some true => .ok p S1
    | some false => mb σ S1
    | none => .no
theorem an_read {τ : L2.St} {H : Hp} {Q : VK} (h : tE (gx X FA) W (fun σ S => (ma σ S).bind fun p S1 => anK mb σ p S1) τ H Q) : tAndT X.K (tE (gx X FA) W ma) (tE (gx X FA) W mb) τ H Q := by
  obtain ⟨σ, θ, S, rE, m, h⟩ := h
  refine ⟨σ, θ, S, rE, m, h.pbind0.mono fun x H1 ⟨p, θ1, S1, _, e1, m1, r1, h1⟩ => ?_⟩
  unfold anK at h1
  split at h1
  · rename_i e
    exact ⟨true, truth_of m1 r1 e, by rw [if_pos rfl]; exact ⟨σ, θ1, S1, rE.ext e1, m1, Post.rebase e1 h1⟩⟩
  · rename_i e
    exact ⟨false, truth_of m1 r1 e, by rw [if_neg Bool.false_ne_true]; exact h1 θ1 H1 x e1 m1 r1⟩
  · exact h1.elim
theorem or_read {τ : L2.St} {H : Hp} {Q : VK} (h : tE (gx X FA) W (fun σ S => (ma σ S).bind fun p S1 => orK mb σ p S1) τ H Q) : tOrT X.K (tE (gx X FA) W ma) (tE (gx X FA) W mb) τ H Q := by
  obtain ⟨σ, θ, S, rE, m, h⟩ := h
  refine ⟨σ, θ, S, rE, m, h.pbind0.mono fun x H1 ⟨p, θ1, S1, _, e1, m1, r1, h1⟩ => ?_⟩
  unfold orK at h1
  split at h1
  · rename_i e
    exact ⟨true, truth_of m1 r1 e, by rw [if_pos rfl]; exact h1 θ1 H1 x e1 m1 r1⟩
  · rename_i e
    exact ⟨false, truth_of m1 r1 e, by rw [if_neg Bool.false_ne_true]; exact ⟨σ, θ1, S1, rE.ext e1, m1, Post.rebase e1 h1⟩⟩
  · exact h1.elim
theorem sE_an {rest : List Expr} (ha : PE X a (tE (gx X FA) W ma)) (hb : PE X (.BoolOp .And (b :: rest) pos) (tE (gx X FA) W mb)) :
    PE X (.BoolOp .And (a :: b :: rest) pos) (tE (gx X FA) W fun σ S => (ma σ S).bind fun p S1 => anK mb σ p S1) := PE.imp (pe_andT ha hb) fun _ _ _ h => an_read h
theorem sE_or {rest : List Expr} (ha : PE X a (tE (gx X FA) W ma)) (hb : PE X (.BoolOp .Or (b :: rest) pos) (tE (gx X FA) W mb)) :
    PE X (.BoolOp .Or (a :: b :: rest) pos) (tE (gx X FA) W fun σ S => (ma σ S).bind fun p S1 => orK mb σ p S1) := PE.imp (pe_orT ha hb) fun _ _ _ h => or_read h
theorem sE_one {op} (ha : PE X a (tE (gx X FA) W ma)) : PE X (.BoolOp op [a] pos) (tE (gx X FA) W ma) := pe_one ha

/-! ### tests -/
def truM (m : Env → Sto → Rs Pv) (σ : Env) (S : Sto) : Rs Bool := (m σ S).bind fun p S1 => match p.truth S1 with
    | some b => .ok b S1
    | none => .no
def tT (G : Gx) (W : WX') (m : Env → Sto → Rs Pv) : TT := fun τ H Q => ∃ σ θ S, RepE G θ H σ τ ∧ Sim G θ S H ∧ PostR G W θ H (fun _ _ a b => a = b) (truM m σ S) Q
theorem PostR.rebase' {G : Gx} {θ θ1 : List Addr} {H H1 : Hp} {α : Type} {r : Rs α} {Q : α → Hp → Prop} (e : Ext G θ H θ1 H1) (h : PostR G W θ H (fun _ _ a b => a = b) r Q) : PostR G W θ1 H1 (fun _ _ a b => a = b) r Q := PostR.rebase e (fun _ _ _ _ h => h) h
/-- what remains to be tested of a value -/
def truV (p : Pv) (S1 : Sto) : Rs Bool := match p.truth S1 with
    | some b => .ok b S1
    | none => .no
theorem tru_read {τ : L2.St} {H : Hp} {Q : Bool → Hp → Prop} (h : tT (gx X FA) W ma τ H Q) : tE (gx X FA) W ma τ H fun x H1 => ∃ σ p θ θ0 H0 S, RepE (gx X FA) θ H1 σ τ ∧ Ext (gx X FA) θ0 H0 θ H1 ∧ Sim (gx X FA) θ S H1 ∧ RepP (gx X FA) H0 θ H1 p x ∧ PostR (gx X FA) W θ H1 (fun _ _ a b => a = b) (truV p S) Q := by
  obtain ⟨σ, θ, S, rE, m, h⟩ := h
  refine ⟨σ, θ, S, rE, m, Post.iff.mpr ((PostR.bind (R := RepP (gx X FA) H) h).mono fun x H1 ⟨p, θ1, S1, _, e1, m1, r1, h1⟩ => ⟨σ, p, θ1, θ, H, S1, rE.ext e1, e1, m1, r1, PostR.rebase' e1 h1⟩)⟩
theorem truV_of {p : Pv} {x : V} {θ : List Addr} {S : Sto} {H H₁ : Hp} {Q : Bool → Hp → Prop} (m : Sim (gx X FA) θ S H) (r : RepP (gx X FA) H₁ θ H p x) (h : PostR (gx X FA) W θ H (fun _ _ a b => a = b) (truV p S) Q) : ∃ k, p.truth S = some k ∧ TruV X.K x H k ∧ Q k H := by
  unfold truV at h
  cases e : p.truth S with
  | none => rw [e] at h; exact h.elim
  | some k =>
    rw [e] at h
    exact ⟨k, rfl, truth_of m r e, h θ H k .refl m rfl⟩
/-- any expression but and, or, not, comparisons -/
theorem sT_any (ha : PE X a (tE (gx X FA) W ma)) (he : ∀ whole, isTrue a X.env whole = (do let v ← whole; standAt a.pos; holding [v] (truthy v))) : PT X a (tT (gx X FA) W ma) :=
  PT.imp (pt_truth ha he) fun τ H Q h => by
    obtain ⟨σ, θ, S, rE, m, h⟩ := tru_read h
    refine ⟨σ, θ, S, rE, m, h.mono fun x H1 ⟨_, p, θ1, _, _, S1, _, _, m1, r1, h1⟩ => ?_⟩
    obtain ⟨k, _, t, q⟩ := truV_of m1 r1 h1
    exact ⟨k, t, q⟩
theorem Rs.bind_assoc {α β γ : Type} (r : Rs α) (f : α → Sto → Rs β) (g : β → Sto → Rs γ) : (r.bind f).bind g = r.bind fun a S => (f a S).bind g := by
  cases r <;> rfl
def blT (S : Sto) : Option Bool → Rs Bool
  | some b => .ok b S
  | none => .no
theorem blR_bind (S : Sto) (r : Option Bool) : (blR S r).bind truV = blT S r := by cases r <;> rfl
theorem PostR.pbind {r : Rs Pv} {G : Gx} {θ : List Addr} {H : Hp} {k : Pv → Sto → Rs Bool} {Q : Bool → Hp → Prop} (h : PostR G W θ H (fun _ _ a b => a = b) (r.bind k) Q) :
    Post G W θ H r (fun v H1 => ∃ p θ1 S1, r = .ok p S1 ∧ Ext G θ H θ1 H1 ∧ Sim G θ1 S1 H1 ∧ RepP G H θ1 H1 p v ∧ PostR G W θ1 H1 (fun _ _ a b => a = b) (k p S1) Q) := by
  cases r with
  | ok a S => exact fun θ' H' b e m q => ⟨a, θ', S, rfl, e, m, q, PostR.rebase' e h⟩
  | ex x S => exact h
  | no => exact h
/-- a bool that a comparison gives -/
theorem blT_read {G : Gx} {θ : List Addr} {H : Hp} {S : Sto} {r : Option Bool} {Q : Bool → Hp → Prop} (h : PostR G W θ H (fun _ _ a b => a = b) (blT S r) Q) : Post G W θ H (blR S r) fun z H3 => ∃ k, z = .bl k ∧ Q k H3 := by
  cases r with
  | none => exact h
  | some b =>
    intro θ' H' z e m q
    exact ⟨b, RepP.b q, h θ' H' b e m rfl⟩
theorem sT_cmp (hu : RoomC X.A) {o : Cm} (hp : isPlainE b = true) (ha : PE X a (tE (gx X FA) W ma)) (hb : PE X b (tE (gx X FA) W mb)) :
    PT X (.Compare a [cmX o] [b] pos) (tT (gx X FA) W fun σ S => (ma σ S).bind fun p S1 => (mb σ S1).bind fun q S2 => blR S2 (cmP o S2 p q)) :=
  PT.imp (pt_cmpR (or_cm hu o) ha hb (marks_plain hp)) fun τ H Q ⟨σ, θ, S, rE, m, h⟩ => by
    have e : truM (fun σ S => (ma σ S).bind fun p S1 => (mb σ S1).bind fun q S2 => blR S2 (cmP o S2 p q)) σ S = (ma σ S).bind fun p S1 => (mb σ S1).bind fun q S2 => blT S2 (cmP o S2 p q) := by
      show ((ma σ S).bind _).bind truV = _
      simp only [Rs.bind_assoc, blR_bind]
    rw [e] at h
    refine ⟨σ, θ, S, rE, m, (PostR.pbind h).mono fun x H1 ⟨p, θ1, S1, _, e1, m1, r1, h1⟩ => ⟨σ, θ1, S1, rE.ext e1, m1, (PostR.pbind h1).mono fun y H2 ⟨q, θ2, S2, _, e2, m2, r2, h2⟩ => ?_⟩⟩
    exact ⟨p, q, θ2, S2, H, H1, m2, r1.ext e2, r2, blT_read h2⟩
theorem sT_chn (hu : RoomC X.A) {o o' : Cm} (hp : isPlainE c = true) (ha : PE X a (tE (gx X FA) W ma)) (hb : PE X b (tE (gx X FA) W mb)) (hc : PE X c (tE (gx X FA) W mc)) :
    PT X (.Compare a [cmX o, cmX o'] [b, c] pos) (tT (gx X FA) W fun σ S => (ma σ S).bind fun p S1 => (mb σ S1).bind fun q S2 => chnK o o' mc σ p q S2) :=
  PT.imp (pt_chain (or_cm hu o) (or_cm hu o') ha hb hc (marks2_plain hp)) fun τ H Q ⟨σ, θ, S, rE, m, h⟩ => by
    have e : truM (fun σ S => (ma σ S).bind fun p S1 => (mb σ S1).bind fun q S2 => chnK o o' mc σ p q S2) σ S = (ma σ S).bind fun p S1 => (mb σ S1).bind fun q S2 => (chnK o o' mc σ p q S2).bind truV := by
      show ((ma σ S).bind _).bind truV = _
      simp only [Rs.bind_assoc]
    rw [e] at h
    have key : tE (gx X FA) W (fun σ S => (ma σ S).bind fun p S1 => (mb σ S1).bind fun q S2 => chnK o o' mc σ p q S2) τ H fun z H3 => ∃ k, z = .bl k ∧ Q k H3 := by
      refine ⟨σ, θ, S, rE, m, ?_⟩
      show Post (gx X FA) W θ H ((ma σ S).bind fun p S1 => (mb σ S1).bind fun q S2 => chnK o o' mc σ p q S2) _
      revert h
      cases ma σ S with
      | no => exact fun h => h
      | ex x S' => exact fun h => h
      | ok p S1 =>
        intro h
        show Post _ W θ H ((mb σ S1).bind fun q S2 => chnK o o' mc σ p q S2) _
        replace h : PostR (gx X FA) W θ H (fun _ _ a b => a = b) ((mb σ S1).bind fun q S2 => (chnK o o' mc σ p q S2).bind truV) Q := h
        revert h
        cases mb σ S1 with
        | no => exact fun h => h
        | ex x S' => exact fun h => h
        | ok q S2 =>
          intro h
          show Post _ W θ H (chnK o o' mc σ p q S2) _
          replace h : PostR (gx X FA) W θ H (fun _ _ a b => a = b) ((chnK o o' mc σ p q S2).bind truV) Q := h
          unfold chnK at h ⊢
          revert h
          cases cmP o S2 p q with
          | none => exact fun h => h
          | some k =>
            cases k with
            | false =>
              intro h θ' H' z e' m' r'
              exact ⟨false, RepP.b r', h θ' H' false e' m' rfl⟩
            | true =>
              intro h
              dsimp only at h ⊢
              revert h
              cases mc σ S2 with
              | no => exact fun h => h
              | ex x S' => exact fun h => h
              | ok r S3 =>
                intro h
                show Post _ W θ H (blR S3 (cmP o' S3 q r)) _
                replace h : PostR (gx X FA) W θ H (fun _ _ a b => a = b) ((blR S3 (cmP o' S3 q r)).bind truV) Q := h
                rw [blR_bind] at h
                exact blT_read h
    exact chn_read key
theorem sT_isn {j : Nat} {pos' : Pos} (ha : PE X a (tE (gx X FA) W ma)) : PT X (.Compare a [.Is] [.Constant .none j pos'] pos) (tT (gx X FA) W fun σ S => (ma σ S).bind fun p S1 => .ok (.val (.bl p.isN)) S1) :=
  PT.imp (pt_cmp (pc_isN ha)) fun τ H Q ⟨σ, θ, S, rE, m, h⟩ => by
    have e : truM (fun σ S => (ma σ S).bind fun p S1 => .ok (.val (.bl p.isN)) S1) σ S = (ma σ S).bind fun p S1 => blT S1 (some p.isN) := by
      show ((ma σ S).bind _).bind truV = _
      simp only [Rs.bind_assoc]
      rfl
    rw [e] at h
    refine ⟨σ, θ, S, rE, m, (PostR.pbind h).mono fun x H1 ⟨p, θ1, S1, _, e1, m1, r1, h1⟩ => ?_⟩
    rw [isN_of r1]
    exact ⟨_, rfl, h1 θ1 H1 _ .refl m1 rfl⟩
theorem sT_nisn {j : Nat} {pos' : Pos} (ha : PE X a (tE (gx X FA) W ma)) : PT X (.Compare a [.IsNot] [.Constant .none j pos'] pos) (tT (gx X FA) W fun σ S => (ma σ S).bind fun p S1 => .ok (.val (.bl (!p.isN))) S1) :=
  PT.imp (pt_cmp (pc_notN ha)) fun τ H Q ⟨σ, θ, S, rE, m, h⟩ => by
    have e : truM (fun σ S => (ma σ S).bind fun p S1 => .ok (.val (.bl (!p.isN))) S1) σ S = (ma σ S).bind fun p S1 => blT S1 (some (!p.isN)) := by
      show ((ma σ S).bind _).bind truV = _
      simp only [Rs.bind_assoc]
      rfl
    rw [e] at h
    refine ⟨σ, θ, S, rE, m, (PostR.pbind h).mono fun x H1 ⟨p, θ1, S1, _, e1, m1, r1, h1⟩ => ?_⟩
    rw [isN_of r1]
    exact ⟨_, rfl, h1 θ1 H1 _ .refl m1 rfl⟩
theorem sT_nt (ha : PT X a (tT (gx X FA) W ma)) : PT X (.UnaryOp .Not a pos) (tT (gx X FA) W fun σ S => (ma σ S).bind fun p S1 => blR S1 ((p.truth S1).map (!·))) :=
  PT.imp (pt_not ha) fun τ H Q ⟨σ, θ, S, rE, m, h⟩ => by
    refine ⟨σ, θ, S, rE, m, ?_⟩
    have e : truM (fun σ S => (ma σ S).bind fun p S1 => blR S1 ((p.truth S1).map (!·))) σ S = (truM ma σ S).bind fun k S1 => .ok (!k) S1 := by
      show ((ma σ S).bind _).bind truV = _
      rw [truM, Rs.bind_assoc, Rs.bind_assoc]
      congr 1
      funext p S1
      cases p.truth S1 <;> rfl
    rw [e] at h
    revert h
    cases truM ma σ S with
    | no => exact fun h => h
    | ex x S' => exact fun h => h
    | ok k S1 =>
      intro h θ' H' b e' m' r'
      subst r'
      exact h θ' H' (!k) e' m' rfl
/-- a and b as a test -/
theorem sT_an {rest : List Expr} (ha : PT X a (tT (gx X FA) W ma)) (hb : PW X (.BoolOp .And (b :: rest) pos) (tT (gx X FA) W mb)) :
    PW X (.BoolOp .And (a :: b :: rest) pos) (tT (gx X FA) W fun σ S => (ma σ S).bind fun p S1 => anK mb σ p S1) := by
  have h := pw_and ha hb
  refine ⟨fun wh pins s τ H Q I ⟨σ, θ, S, rE, m, q⟩ => h.run wh pins s τ H Q I ⟨σ, θ, S, rE, m, ?_⟩⟩
  have e : truM (fun σ S => (ma σ S).bind fun p S1 => anK mb σ p S1) σ S = (truM ma σ S).bind fun k S1 => if k then truM mb σ S1 else .ok false S1 := by
    show ((ma σ S).bind _).bind truV = _
    rw [truM, Rs.bind_assoc, Rs.bind_assoc]
    congr 1
    funext p S1
    unfold anK
    cases t : p.truth S1 with
    | none => rfl
    | some k =>
      cases k
      · show truV p S1 = .ok false S1
        unfold truV; rw [t]
      · rfl
  rw [e] at q
  revert q
  cases truM ma σ S with
  | no => exact fun h => h
  | ex x S' => exact fun h => h
  | ok k S1 =>
    intro q θ' H' b e' m' r'
    subst r'
    cases k with
    | true => exact ⟨σ, θ', S1, rE.ext e', m', PostR.rebase' e' q⟩
    | false => exact q θ' H' false e' m' rfl
theorem sT_or {rest : List Expr} (ha : PT X a (tT (gx X FA) W ma)) (hb : PW X (.BoolOp .Or (b :: rest) pos) (tT (gx X FA) W mb)) :
    PW X (.BoolOp .Or (a :: b :: rest) pos) (tT (gx X FA) W fun σ S => (ma σ S).bind fun p S1 => orK mb σ p S1) := by
  have h := pw_or ha hb
  refine ⟨fun wh pins s τ H Q I ⟨σ, θ, S, rE, m, q⟩ => h.run wh pins s τ H Q I ⟨σ, θ, S, rE, m, ?_⟩⟩
  have e : truM (fun σ S => (ma σ S).bind fun p S1 => orK mb σ p S1) σ S = (truM ma σ S).bind fun k S1 => if k then .ok true S1 else truM mb σ S1 := by
    show ((ma σ S).bind _).bind truV = _
    rw [truM, Rs.bind_assoc, Rs.bind_assoc]
    congr 1
    funext p S1
    unfold orK
    cases t : p.truth S1 with
    | none => rfl
    | some k =>
      cases k
      · rfl
      · show truV p S1 = .ok true S1
        unfold truV; rw [t]
  rw [e] at q
  revert q
  cases truM ma σ S with
  | no => exact fun h => h
  | ex x S' => exact fun h => h
  | ok k S1 =>
    intro q θ' H' b e' m' r'
    subst r'
    cases k with
    | true => exact q θ' H' true e' m' rfl
    | false => exact ⟨σ, θ', S1, rE.ext e', m', PostR.rebase' e' q⟩
theorem sT_an1 (ha : PT X a (tT (gx X FA) W ma)) : PW X (.BoolOp .And [a] pos) (tT (gx X FA) W ma) := pw_and1 ha
theorem sT_or1 (ha : PT X a (tT (gx X FA) W ma)) : PW X (.BoolOp .Or [a] pos) (tT (gx X FA) W ma) := pw_or1 ha
/-- a if c else b -/
def itK (ma mb : Env → Sto → Rs Pv) (σ : Env) (p : Pv) (S1 : Sto) : Rs Pv := match p.truth S1 with
    | some true => ma σ S1
    | some false => mb σ S1
    | none => .no
theorem sE_ite (hc : PT X c (tT (gx X FA) W mc)) (ha : PE X a (tE (gx X FA) W ma)) (hb : PE X b (tE (gx X FA) W mb)) :
    PE X (.IfExp c a b pos) (tE (gx X FA) W fun σ S => (mc σ S).bind fun p S1 => itK ma mb σ p S1) :=
  PE.imp (pe_ifExp hc ha hb) fun τ H Q ⟨σ, θ, S, rE, m, q⟩ => by
    refine ⟨σ, θ, S, rE, m, ?_⟩
    have e : (mc σ S).bind (fun p S1 => itK ma mb σ p S1) = (truM mc σ S).bind fun k S1 => if k then ma σ S1 else mb σ S1 := by
      rw [truM, Rs.bind_assoc]
      congr 1
      funext p S1
      unfold itK
      cases t : p.truth S1 with
      | none => rfl
      | some k => cases k <;> rfl
    replace q : Post (gx X FA) W θ H ((mc σ S).bind (fun p S1 => itK ma mb σ p S1)) Q := q
    rw [e] at q
    revert q
    cases truM mc σ S with
    | no => exact fun h => h
    | ex x S' => exact fun h => h
    | ok k S1 =>
      intro q θ' H' b e' m' r'
      subst r'
      cases k with
      | true => exact ⟨σ, θ', S1, rE.ext e', m', Post.rebase e' q⟩
      | false => exact ⟨σ, θ', S1, rE.ext e', m', Post.rebase e' q⟩
end
end Nog

set_option Elab.async false
set_option linter.all false
set_option maxRecDepth 100000
set_option maxHeartbeats 1000000
/-! argument lists, displays, items, slices -/
namespace Nog
open PySem L2 PyProof.Rows
section
variable {X : Cx} {FA : Nat → Option Addr} {W : WX'} {pos : Pos} {a b c e : Expr} {es : List Expr} {ma mb mc : Env → Sto → Rs Pv} {ml : Env → Sto → Rs (List D)}
theorem toVal_rep {G : Gx} {θ θ1 : List Addr} {H H1 : Hp} {S1 S2 : Sto} {p : Pv} {d : D} {v : V} (e : Ext G θ H θ1 H1) (m : Sim G θ1 S1 H1) (r : RepP G H θ1 H1 p v) (t : p.toVal S1 = .ok d S2) :
    ∃ θ2, Ext G θ H θ2 H1 ∧ Sim G θ2 S2 H1 ∧ Rep G θ2 H1 d v := by
  cases p with
  | val x => cases t; exact ⟨θ1, e, m, r⟩
  | fresh xs =>
    cases t
    obtain ⟨a, vs, rfl, h2, h3, h4, h5⟩ := r
    refine ⟨θ1 ++ [a], e.join h5, m.join h4 ⟨vs, h2, h3⟩, .ref ?_⟩
    rw [← m.len, List.getElem?_append_right (Nat.le_refl _), Nat.sub_self]
    rfl
  | rng lo hi => cases t
  | its xs hs => cases t
theorem toVal_ok (p : Pv) (S : Sto) : (∃ d S', p.toVal S = .ok d S') ∨ p.toVal S = .no := by
  cases p with
  | val x => exact .inl ⟨_, _, rfl⟩
  | fresh xs => exact .inl ⟨_, _, rfl⟩
  | rng lo hi => exact .inr rfl
  | its xs hs => exact .inr rfl
theorem val_read {G : Gx} {θ : List Addr} {H : Hp} {γ δ : Type} {R' : List Addr → Hp → γ → δ → Prop} {r : Rs Pv} {k : D → Sto → Rs γ} {Q : δ → Hp → Prop} (h : PostR G W θ H R' (r.bind fun p S1 => (p.toVal S1).bind fun d S2 => k d S2) Q) :
    Post G W θ H r (fun v H1 => ∃ d θ2 S2, Ext G θ H θ2 H1 ∧ Sim G θ2 S2 H1 ∧ Rep G θ2 H1 d v ∧ PostR G W θ H R' (k d S2) Q) := by
  cases r with
  | no => exact h
  | ex x S => exact h
  | ok p S1 =>
    intro θ' H' v e m q
    replace h : PostR G W θ H R' ((p.toVal S1).bind fun d S2 => k d S2) Q := h
    rcases toVal_ok p S1 with ⟨d, S2, t⟩ | t
    · rw [t] at h
      obtain ⟨θ2, e2, m2, r2⟩ := toVal_rep e m q t
      exact ⟨d, θ2, S2, e2, m2, r2, h⟩
    · rw [t] at h
      exact h.elim
/-- an argument list's reading -/
def tA (G : Gx) (W : WX') (m : Env → Sto → Rs (List D)) : TA := fun τ H Q => ∃ σ θ S, RepE G θ H σ τ ∧ Sim G θ S H ∧ PostR G W θ H (fun θ' H' ds vs => RepL G θ' H' ds vs) (m σ S) Q
theorem PA.imp {X : Cx} {es : List Expr} {t t' : TA} (h : PA X es t) (f : ∀ σ H Q, t' σ H Q → t σ H Q) : PA X es t' := ⟨fun pos pins s σ H Q I q => h.run pos pins s σ H Q I (f σ H Q q)⟩
theorem sA_nil : PA X [] (tA (gx X FA) W fun _ S => .ok [] S) :=
  PA.imp pa_nil fun τ H Q ⟨σ, θ, S, rE, m, h⟩ => h θ H [] .refl m .nil
def consM (ma : Env → Sto → Rs Pv) (ml : Env → Sto → Rs (List D)) (σ : Env) (S : Sto) : Rs (List D) := (ma σ S).bind fun p S1 => (p.toVal S1).bind fun d S2 => (ml σ S2).bind fun ds S3 => .ok (d :: ds) S3
theorem sA_cons (hp : isPlainE e = true) (ha : PE X e (tE (gx X FA) W ma)) (hr : PA X es (tA (gx X FA) W ml)) : PA X (e :: es) (tA (gx X FA) W (consM ma ml)) :=
  PA.imp (pa_cons ha hr (star_cons hp)) fun τ H Q ⟨σ, θ, S, rE, m, h⟩ => by
    unfold consM at h
    refine ⟨σ, θ, S, rE, m, (val_read h).mono fun v H1 ⟨d, θ2, S2, e2, m2, r2, h2⟩ => ?_⟩
    refine ⟨σ, θ2, S2, rE.ext e2, m2, ?_⟩
    have h3 := PostR.rebase (R := fun θ' H' ds vs => RepL (gx X FA) θ' H' ds vs) e2 (fun _ _ _ _ q => q) h2
    refine (PostR.bind (R := fun θ' H' ds vs => RepL (gx X FA) θ' H' ds vs) h3).mono fun vs H3 ⟨ds, θ3, S3, _, e3, m3, r3, h4⟩ => ?_
    exact h4 θ3 H3 (v :: vs) e3 m3 (.cons (r2.ext e3) r3)
theorem sE_tup {k : Nat} (hl : es.length ≤ 1000) (h : PA X es (tA (gx X FA) W ml)) (hlen : ∀ σ S ds S', ml σ S = .ok ds S' → ds.length = es.length) :
    PE X (.Tuple es k pos) (tE (gx X FA) W fun σ S => (ml σ S).bind fun ds S1 => .ok (.val (.tup ds)) S1) :=
  PE.imp (pe_tup h) fun τ H Q ⟨σ, θ, S, rE, m, h⟩ => by
    refine ⟨σ, θ, S, rE, m, (PostR.bind (R := fun θ' H' ds vs => RepL (gx X FA) θ' H' ds vs) (Post.iff.mp h)).mono fun vs H1 ⟨ds, θ1, S1, q, e1, m1, r1, h1⟩ => ?_⟩
    have l := r1.length
    have l2 := hlen σ S ds S1 q
    refine ⟨by rw [sizeLine_eq]; omega, fun p hp => ?_⟩
    exact (Post.rebase e1 (Post.iff.mpr h1)).newTup m1 r1 hp
theorem sE_lst (hl : es.length ≤ 1000) (h : PA X es (tA (gx X FA) W ml)) (hlen : ∀ σ S ds S', ml σ S = .ok ds S' → ds.length = es.length) :
    PE X (.List es pos) (tE (gx X FA) W fun σ S => (ml σ S).bind fun ds S1 => .ok (.fresh ds) S1) :=
  PE.imp (pe_lst h) fun τ H Q ⟨σ, θ, S, rE, m, h⟩ => by
    refine ⟨σ, θ, S, rE, m, (PostR.bind (R := fun θ' H' ds vs => RepL (gx X FA) θ' H' ds vs) (Post.iff.mp h)).mono fun vs H1 ⟨ds, θ1, S1, q, e1, m1, r1, h1⟩ => ?_⟩
    have l := r1.length
    have l2 := hlen σ S ds S1 q
    refine ⟨by rw [sizeLine_eq]; omega, fun p hp => ?_⟩
    exact (Post.rebase e1 (Post.iff.mpr h1)).newLst m1 r1 hp
theorem evs_length (C : Call) : ∀ (es : List E) (σ : Env) (S : Sto) (ds : List D) (S' : Sto), evs C es σ S = .ok ds S' → ds.length = es.length
  | [], σ, S, ds, S', h => by rw [evs] at h; cases h; rfl
  | e :: es, σ, S, ds, S', h => by
    rw [evs] at h
    cases h1 : ev C e σ S with
    | no => rw [h1] at h; cases h
    | ex x S1 => rw [h1] at h; cases h
    | ok p S1 =>
      rw [h1] at h
      replace h : ((p.toVal S1).bind fun d S2 => (evs C es σ S2).bind fun ds S3 => Rs.ok (d :: ds) S3) = .ok ds S' := h
      rcases toVal_ok p S1 with ⟨d, S2, t⟩ | t
      · rw [t] at h
        replace h : ((evs C es σ S2).bind fun ds S3 => Rs.ok (d :: ds) S3) = .ok ds S' := h
        cases h2 : evs C es σ S2 with
        | no => rw [h2] at h; cases h
        | ex x S3 => rw [h2] at h; cases h
        | ok ds2 S3 =>
          rw [h2] at h
          cases h
          rw [List.length_cons, List.length_cons, evs_length C es σ S2 ds2 _ h2]
      · rw [t] at h; cases h

/-! ### items -/
theorem ixN_eq (i : Int) (n : Nat) : L2.ixN n i = Nog.ixN i n := rfl
theorem atI_of {xs : List D} {vs : List V} {G : Gx} {θ : List Addr} {H : Hp} {i : Int} {d : D} (r : RepL G θ H xs vs) (e : ((Nog.ixN i xs.length).bind fun k => xs[k]?) = some d) : ∃ v, atI vs i = some v ∧ Rep G θ H d v := by
  obtain ⟨k, h1, h2⟩ := Option.bind_eq_some_iff.mp e
  obtain ⟨v, h3, h4⟩ := r.get h2
  refine ⟨v, ?_, h4⟩
  unfold atI
  rw [r.length, ixN_eq, h1]
  exact h3
theorem ix_P (hu : RoomC X.A) : IxR X (K2 (gx X FA) W fun p q S => match ixP S p q with
    | some d => .ok (.val d) S
    | none => .no) := by
  intro value slice pins s τ H x y v u Q I rx ry h hs
  obtain ⟨p, q, θ, S, H₁, H₂, m, rp, rq, h⟩ := h
  dsimp only at h
  split at h
  · rename_i d e
    unfold ixP at e
    split at e
    · rename_i xs i
      obtain ⟨a, vs, rfl, h2, h3⟩ := RepP.t rp
      obtain rfl := RepP.i rq
      obtain ⟨w, h4, h5⟩ := atI_of h3 e
      exact ix_tup value slice pins s τ H _ _ v u Q I rx ry ⟨a, vs, i, w, rfl, rfl, h2, h4, h.val m h5⟩ hs
    · rename_i xs i
      obtain ⟨a, vs, rfl, h2, h3, _⟩ := rp
      obtain rfl := RepP.i rq
      obtain ⟨w, h4, h5⟩ := atI_of h3 e
      exact ix_list value slice pins s τ H _ _ v u Q I rx ry ⟨a, vs, i, w, rfl, rfl, .of h2, h4, h.val m h5⟩ hs
    · rename_i z i
      split at e
      · rename_i c
        obtain rfl := RepP.s rp
        obtain rfl := RepP.i rq
        obtain ⟨k, h1, h2⟩ := Option.bind_eq_some_iff.mp e
        obtain ⟨ch, h3, rfl⟩ := Option.map_eq_some_iff.mp h2
        simp only [fits, decide_eq_true_eq, lim_line] at c
        refine ix_str value slice pins s τ H _ _ v u Q I rx ry ⟨toS z, i, ch, rfl, rfl, ?_, ?_, ?_⟩ hs
        · show (toS z).cps.size ≤ _
          simpa [toS] using c
        · rw [toS_list]
          unfold atI
          rw [ixN_eq, h1]
          exact h3
        · exact h.val m .str
      · cases e
    · rename_i l k
      obtain ⟨a, h1, rfl⟩ := RepP.r rp
      split at e
      · rename_i xs ho
        obtain ⟨vs, h2, h3⟩ := m.ob l a _ h1 ho
        split at e
        · rename_i i
          obtain rfl := RepP.i rq
          obtain ⟨w, h4, h5⟩ := atI_of h3 e
          exact ix_list value slice pins s τ H _ _ v u Q I rx ry ⟨a, vs, i, w, rfl, rfl, .of h2, h4, h.val m h5⟩ hs
        · cases e
      · rename_i lk kvs ho
        obtain ⟨hn, es, h2, h3⟩ := m.ob l a _ h1 ho
        split at e
        · rename_i hk
          obtain ⟨⟨ks, rfl⟩, _⟩ := okKey_inv hk
          obtain ⟨c, vs, rfl, h4, h5⟩ := RepP.t rq
          cases rx
          cases ry
          have ht : s.TypeIs (.ref a) "dict" := by
            obtain ⟨_, _, us, _, hm⟩ := dict_lib I h2 h3 hn
            exact hm.typeIs
          exact tail_any ht slot_dict_getitem.lookup (dict_get hu I h2 h3 hn hk (.tup h4 h5) e fun w hw => h.val m hw) hs
        · cases e
      · cases e
    · cases e
  · exact h.elim

theorem sE_ix (hu : RoomC X.A) (hp : isPlainE b = true) (ha : PE X a (tE (gx X FA) W ma)) (hb : PE X b (tE (gx X FA) W mb)) :
    PE X (.Subscript a b pos) (tE (gx X FA) W fun σ S => (ma σ S).bind fun p S1 => (mb σ S1).bind fun q S2 => match ixP S2 p q with
    | some d => .ok (.val d) S2
    | none => .no) :=
  PE.imp (pe_ix (ix_P hu) ha hb (ix_plain hp)) fun τ H Q h => two (k := fun p q S => match ixP S p q with
    | some d => .ok (.val d) S
    | none => .no) h

/-! ### slices -/
theorem cut_eq (n d : Nat) (hd : d ≤ n) (o : Option Int) : HT.sIx n d o = Nog.cutAt n d o := by
  cases o with
  | none => exact HT.sIx_none n d
  | some v =>
    have h := HT.clip_eq v n d
    show HT.sIx n d (some v) = if v < 0 then (v + n).toNat else min v.toNat n
    by_cases hv : v < 0
    · rw [if_pos hv] at h ⊢
      omega
    · rw [if_neg hv] at h ⊢
      omega
theorem slic_rep {G : Gx} {θ : List Addr} {H : Hp} {xs : List D} {vs : List V} (r : RepL G θ H xs vs) (lo hi : Option Int) : RepL G θ H (slicL xs lo hi) (cutV vs lo hi) := by
  unfold slicL cutV
  have l := r.length
  rw [cut_eq _ _ (Nat.zero_le _), cut_eq _ _ (Nat.le_refl _), l]
  exact (r.drop _).take _
theorem slic_whole {xs : List D} {lo hi : Option Int} (h1 : Nog.cutAt xs.length 0 lo = 0) (h2 : Nog.cutAt xs.length xs.length hi = xs.length) : slicL xs lo hi = xs := by
  unfold slicL
  rw [h1, h2]
  simp
theorem sl_P : SlR X (fun x lo hi H Q => ∃ p θ S H₁, Sim (gx X FA) θ S H ∧ RepP (gx X FA) H₁ θ H p x ∧ Post (gx X FA) W θ H (slP S p lo hi) Q) := by
  intro pins s τ H x v vl vu lo hi sl Q I rx hs pl pu h
  obtain ⟨p, θ, S, H₁, m, rp, h⟩ := h
  unfold slP at h
  split at h
  · rename_i xs
    obtain ⟨a, vs, rfl, h2, h3⟩ := RepP.t rp
    have l := h3.length
    refine sl_tupA pins s τ H _ v vl vu lo hi sl Q I rx hs pl pu ⟨a, vs, rfl, h2, fun ⟨z1, z2⟩ => ?_, fun _ p hp => h.newTup m (slic_rep h3 lo hi) hp⟩
    rw [cut_eq _ _ (Nat.zero_le _), l] at z1
    rw [cut_eq _ _ (Nat.le_refl _), l] at z2
    rw [slic_whole z1 z2] at h
    exact h.val m rp
  · split at h
    · rename_i xs e
      obtain ⟨a, vs, rfl, h2, h3⟩ := lst_of m rp e
      exact sl_list pins s τ H _ v vl vu lo hi sl Q I rx hs pl pu ⟨a, vs, rfl, lst_sq h3, fun p hp => h.newLst m (slic_rep h2 lo hi) hp⟩
    · exact h.elim
/-- a bound of a slice -/
def tO (G : Gx) (W : WX') (e : E) (m : Env → Sto → Rs Pv) : TO := fun τ H Q => tE G W m τ H fun v H1 => ∃ q θ H₀ o, RepP G H₀ θ H1 q v ∧ partOf e q = some o ∧ Q o H1
theorem PO.imp {X : Cx} {e : Option Expr} {t t' : TO} (h : PO X e t) (f : ∀ σ H Q, t' σ H Q → t σ H Q) : PO X e t' := ⟨fun pins s σ H Q I q => h.run pins s σ H Q I (f σ H Q q)⟩
theorem sO_none {C : Call} : PO X none (tO (gx X FA) W (.lit .non) (ev C (.lit .non))) :=
  PO.imp po_none fun τ H Q ⟨σ, θ, S, rE, m, h⟩ => by
    rw [ev] at h
    obtain ⟨q, θ1, H₀, o, h0, h1, h2⟩ := h.val m .non
    cases h1
    exact h2
theorem partOf_int {e : E} {q : Pv} {o : Option Int} (hn : e ≠ .lit .non) (h : partOf e q = some o) : ∃ i, q = .val (.int i) ∧ o = some i := by
  unfold partOf at h
  split at h
  · exact absurd rfl hn
  · split at h
    · rename_i i
      exact ⟨i, rfl, (Option.some.inj h).symm⟩
    · cases h
theorem sO_some {e' : E} (hn : e' ≠ .lit .non) (ha : PE X a (tE (gx X FA) W ma)) : PO X (some a) (tO (gx X FA) W e' ma) :=
  PO.imp (po_some ha) fun τ H Q ⟨σ, θ, S, rE, m, h⟩ => by
    refine ⟨σ, θ, S, rE, m, h.mono fun x H1 ⟨q, θ1, H₀, o, h0, h1, h2⟩ => ?_⟩
    obtain ⟨i, rfl, rfl⟩ := partOf_int hn h1
    exact ⟨i, RepP.i h0, h2⟩
theorem sE_sl {lo hi : Option Expr} {p2 : Pos} {el eh : E} {ml mh : Env → Sto → Rs Pv} (ha : PE X a (tE (gx X FA) W ma)) (hl : PO X lo (tO (gx X FA) W el ml)) (hh : PO X hi (tO (gx X FA) W eh mh)) :
    PE X (.Subscript a (.Slice lo hi none p2) pos) (tE (gx X FA) W fun σ S => (ma σ S).bind fun p S1 => (ml σ S1).bind fun q S2 => match partOf el q with
    | none => .no
    | some l => (mh σ S2).bind fun r S3 => match partOf eh r with
      | none => .no
      | some h => slP S3 p l h) :=
  PE.imp (pe_slice sl_P ha hl hh) fun τ H Q ⟨σ, θ, S, rE, m, h⟩ => by
    refine ⟨σ, θ, S, rE, m, h.pbind.mono fun x H1 ⟨p, θ1, S1, _, e1, m1, r1, h1⟩ => ⟨σ, θ1, S1, rE.ext e1, m1, h1.pbind.mono fun y H2 ⟨q, θ2, S2, _, e2, m2, r2, h2⟩ => ?_⟩⟩
    cases eo : partOf el q with
    | none => simp only [eo] at h2; exact h2.elim
    | some l =>
      simp only [eo] at h2
      refine ⟨q, θ2, H1, l, r2, eo, ⟨σ, θ2, S2, (rE.ext e1).ext e2, m2, h2.pbind.mono fun z H3 ⟨r, θ3, S3, _, e3, m3, r3, h3⟩ => ?_⟩⟩
      cases eh' : partOf eh r with
      | none => simp only [eh'] at h3; exact h3.elim
      | some k =>
        simp only [eh'] at h3
        exact ⟨r, θ3, H2, k, r3, eh', p, θ3, S3, H, m3, (r1.ext e2).ext e3, h3⟩
end
end Nog

set_option Elab.async false
set_option linter.all false
set_option maxRecDepth 100000
set_option maxHeartbeats 1000000
/-! sorting -/
namespace Nog
open PySem L2 PyProof.Rows PySem.W

section
variable {prog : Program} {w : World} {A : Around} {E : Value → Shared → Prop} {s : Shared}
/-- tuples against each other, where all are of one type -/
theorem oneLt_tup {xs ys : List PyData} {a b : Value} {as bs : List Addr} {Q : Bool → Shared → Prop} (ra : Reads s.heap a (.tuple xs) as) (rb : Reads s.heap b (.tuple ys) bs) (h : alikeAll xs ys = true)
    (hu : A.units + min (PyData.tuple xs).depth (PyData.tuple ys).depth < cLine) (hq : Q (dataLt (.tuple xs) (.tuple ys)) s) : wpAny (model prog w) A (oneLt' true a b) Q E s := by
  cases ra with
  | @tuple l o vs n _ as₁ h1 h2 h3 h4 =>
    cases rb with
    | @tuple l' o' vs' n' _ bs₁ k1 k2 k3 k4 =>
      have n1 : vs.size = xs.length := by simpa using SeqAt.ReadsAll.length _ _ _ h4
      have n2 : vs'.size = ys.length := by simpa using SeqAt.ReadsAll.length _ _ _ k4
      rw [dataLt_tuple, ← firstLt_toks xs ys h, ← n1, ← n2] at hq
      rw [oneLt'_eq]
      simp only [if_true]
      obtain ⟨cls, dd, data, sl⟩ := o
      obtain ⟨cls2, dd2, data2, sl2⟩ := o'
      simp only at h2 h3 k2 k3
      subst h2 h3 k2 k3
      refine wpAny_bind (wpAny_cRoomFor (SeqAt.room_here hu) ?_)
      refine wpAny_bind (wpAny_callSpecialIfBound?_slot (T := "tuple") ⟨_, h1, rfl⟩ F.slot_tuple_lt (call_meets F.slot_tuple_lt ⟨_, h1, rfl⟩ F.entry_tuple_lt (F.args_tuple_lt_2 _ _)
        (SeqAt.tuple_ltAt l l' vs vs' n n' dd dd2 sl sl2 (SeqAt.pairEq xs ys) (fun j => dataLt (xs.getD j .none) (ys.getD j .none))) ⟨h1, k1, fun j j1 j2 => ?_, fun j j1 j2 hj => ?_, ?_⟩))
      · have := eqAt_alikeAll xs ys A.in1 s vs.toList vs'.toList _ _ h4 k4 h (SeqAt.room_in hu) j (by simpa using j1) (by simpa using j2)
        simpa using this
      · have := rcLt_alikeAll xs ys A.in1 s vs.toList vs'.toList _ _ h4 k4 h (SeqAt.room_in hu) j (by simpa using j1) (by simpa using j2) hj
        simpa using this
      · exact wpAny_truthy_bool hq
def filled : PyData → Bool
  | .tuple [] => false
  | _ => true
/-- the firsts of tuples, where some are empty -/
theorem firsts_tup {M : Model} : ∀ {vs : List Value} {ds : List PyData}, EachIs (fun v d => ∃ as, Reads s.heap v d as) vs ds → (∀ d ∈ ds, ∃ xs, d = .tuple xs) →
    ∃ fs : List (Option Value), fs.map Option.isSome = ds.map filled ∧ ∀ (Q : List (Option Value) → Shared → Prop), Q fs s → wpAny M A (vs.mapM firstOfTuple') Q E s
  | _, _, .nil, _ => ⟨[], rfl, fun Q h => by rw [List.mapM_nil]; exact wpAny_pure h⟩
  | _, _, .cons (b := d) ⟨as, r⟩ t, ht => by
    obtain ⟨fs, h1, h2⟩ := firsts_tup (M := M) t fun d hd => ht d (List.mem_cons_of_mem _ hd)
    obtain ⟨xs, rfl⟩ := ht d List.mem_cons_self
    cases r with
    | @tuple a o vs n _ _ ho hc hd hr =>
      have l := SeqAt.ReadsAll.length _ _ _ hr
      refine ⟨vs[0]? :: fs, ?_, fun Q h => ?_⟩
      · rw [List.map_cons, List.map_cons, h1]
        congr 1
        cases xs with
        | nil =>
          have : vs.size = 0 := by simpa using l
          simp [filled, this]
        | cons x xs =>
          have : vs.size = xs.length + 1 := by simpa using l
          simp [filled, this]
      · rw [List.mapM_cons]
        refine wpAny_bind ?_
        rw [kas_first_eq]
        refine wpAny_bind (Looks.here (show Looks M s.heap (typeOf (.ref a)) o.cls from (Looks.ld ho).andThen .now) ?_)
        rw [hc, if_neg (by first | decide | simp)]
        refine wpAny_bind (listItems_at ho hd (wpAny_pure ?_))
        exact wpAny_bind (h2 (fun bs s' => wpAny M A (pure (vs[0]? :: bs)) Q E s') (wpAny_pure h))
/-- what sort of keys tuples are, where one is empty -/
theorem kind_tup {M : Model} {vs : List Value} {ds : List PyData} {Q : SortKind → Shared → Prop} (e : EachIs (fun v d => ∃ as, Reads s.heap v d as) vs ds) (ht : ∀ d ∈ ds, ∃ xs, d = .tuple xs) (hn : ds.all filled = false)
    (h : Q (if (ds[0]?.map filled).getD false then general' else oneType') s) : wpAny M A (keyKind' vs.toArray) Q E s := by
  obtain ⟨fs, h1, h2⟩ := firsts_tup (M := M) (A := A) (E := E) e ht
  rw [kat_kind_eq, List.mapM_toArray, map_eq_pure_bind]
  refine wpAny_bind (wpAny_bind (h2 _ (wpAny_pure ?_)))
  have hall : (fs.toArray.all fun x => x.isSome) = false := by
    rw [List.all_toArray, ← hn]
    have : fs.all (fun x => x.isSome) = (fs.map Option.isSome).all id := by simp [List.all_map]
    rw [this, h1]
    simp [List.all_map]
  rw [if_neg (by rw [hall]; exact Bool.false_ne_true)]
  have h0 : (fs.toArray[0]?.bind id).isSome = (ds[0]?.map filled).getD false := by
    cases fs with
    | nil =>
      cases ds with
      | nil => rfl
      | cons _ _ => simp at h1
    | cons f fs =>
      cases ds with
      | nil => simp at h1
      | cons d ds =>
        simp at h1
        simp [h1.1]
  rw [h0]
  cases q : (ds[0]?.map filled).getD false with
  | true =>
    rw [q] at h
    rw [if_pos rfl]
    rw [if_pos rfl] at h
    exact wpAny_pure h
  | false =>
    rw [q] at h
    rw [if_neg Bool.false_ne_true]
    rw [if_neg Bool.false_ne_true] at h
    obtain ⟨v, vr, rfl⟩ : ∃ v vr, vs = v :: vr := by
      cases vs with
      | nil => cases e; simp at hn
      | cons v vr => exact ⟨v, vr, rfl⟩
    rw [oneTypeOnly'_eq, List.mapM_toArray, map_eq_pure_bind]
    refine wpAny_bind (wpAny_bind (wpAny_bind (kas_mapM (r := Value.type "tuple") _ (fun x hx Q' hq => ?_) (wpAny_pure ?_))))
    · obtain ⟨d, hd, as, r⟩ := e.left x hx
      obtain ⟨xs, rfl⟩ := ht d hd
      exact (looks_reads r).here hq
    · have hall2 : ((List.map (fun _ => Value.type "tuple") (v :: vr)).toArray.all fun x => x == Value.type "tuple") = true := by
        simp only [List.all_toArray, List.all_map, List.all_eq_true]
        intro _ _
        exact beq_self_eq_true _
      have h3 : (List.map (fun _ => Value.type "tuple") (v :: vr)).toArray[0]? = some (Value.type "tuple") := by simp
      rw [h3]
      dsimp only
      rw [if_pos hall2]
      refine wpAny_pure ?_
      exact wpAny_pure h
/-- tuples that read as alike data can be sorted -/
theorem sorts_tup {vs : List Value} {ds : List PyData} (e : EachIs (fun v d => ∃ as, Reads s.heap v d as) vs ds) (hal : AllAlike ds) (ht : ∀ d ∈ ds, ∃ xs, d = .tuple xs) (hu : ∀ d, d ∈ ds → A.units + d.depth < cLine) : SortsAt prog w A s (dataKind s.heap ds) vs := by
  cases hn : ds.all filled with
  | true =>
    refine SortsAt.data e hal (.inl fun d hd => ?_) hu
    obtain ⟨xs, rfl⟩ := ht d hd
    have := List.all_eq_true.mp hn _ hd
    cases xs with
    | nil => cases this
    | cons x r => exact ⟨x, r, rfl⟩
  | false =>
    have room : ∀ {d d' : PyData}, d ∈ ds → A.units + min d.depth d'.depth < cLine := fun {d d'} hd => Nat.lt_of_le_of_lt (Nat.add_le_add_left (Nat.min_le_left _ _) _) (hu d hd)
    refine ⟨fun v hv => ?_, if (ds[0]?.map filled).getD false then general' else oneType', ?_, fun h2 E Q hq => kind_tup e ht hn hq⟩
    · obtain ⟨d, hd, as, r⟩ := e.left v hv
      exact ⟨_, dataKind_some hal hd r⟩
    · intro E x y a b Q ha hb hq
      obtain ⟨d, as, hd, ra, rfl⟩ := dataKind_inv ha
      obtain ⟨d', as', hd', rb, rfl⟩ := dataKind_inv hb
      have hq' : Q (dataLt d d') s := hq
      split
      · exact oneLt_alike (f := false) (fun z => nomatch z) ra rb (hal d hd d' hd') (by obtain ⟨xs, rfl⟩ := ht d hd; exact fun z => nomatch z) (room hd) hq'
      · obtain ⟨xs, rfl⟩ := ht d hd
        obtain ⟨ys, rfl⟩ := ht d' hd'
        rw [keyLt'_oneType]
        exact oneLt_tup ra rb (by simpa [alike] using hal _ hd _ hd') (room hd) hq'
/-- alike data: all tuples, or no tuples and no None -/
theorem sorts_any {vs : List Value} {ds : List PyData} (e : EachIs (fun v d => ∃ as, Reads s.heap v d as) vs ds) (hal : AllAlike ds) (ht : (∀ d ∈ ds, ∃ xs, d = .tuple xs) ∨ ∀ d, d ∈ ds → d ≠ .none ∧ ∀ xs, d ≠ .tuple xs) (hu : ∀ d, d ∈ ds → A.units + d.depth < cLine) : SortsAt prog w A s (dataKind s.heap ds) vs :=
  ht.elim (fun h => sorts_tup e hal h hu) fun h => SortsAt.data e hal (.inr h) hu
/-- sorted(x), x anything that can be collected -/
theorem sorted_from {v : Value} {vs : List Value} {β : Type} {bs : List β} {enc : β → PyData} {R : Value → β → Prop} {Q : Value → Shared → Prop}
    (hcol : ∀ (E' : Value → Shared → Prop) (Q' : List Value → Shared → Prop), (∀ (h' : Heap) (tk : Nat), (∀ b o, s.heap.get? b = some o → h'.get? b = some o) → Q' vs { s with heap := h', toks := tk }) → wpAny (model prog w) A.in1 (collect v) Q' E' s)
    (e : EachIs R vs bs) (er : EachIs (fun v b => ∃ as, Reads s.heap v (enc b) as) vs bs) (hal : AllAlike (bs.map enc))
    (ht : (∀ b ∈ bs, ∃ xs, enc b = .tuple xs) ∨ ∀ b, b ∈ bs → enc b ≠ .none ∧ ∀ xs, enc b ≠ .tuple xs) (hL : bs.length ≤ sizeLine) (hu : ∀ b, b ∈ bs → A.units + 2 + (enc b).depth < cLine)
    (h : ∀ (out : List Value) (h1 h' : Heap) (tk : Nat) (D : Addr) (c : Nat), (∀ b o, s.heap.get? b = some o → h1.get? b = some o) → (∀ b o, h1.get? b = some o → h'.get? b = some o) → D = h1.objs.size → h'.get? D = some (seqObj "list" (List.toArray out) c) → out.length = bs.length → EachIs R out (bs.mergeSort (dataLe false enc)) → Q (.ref D) { s with heap := h', toks := tk }) :
    wpAny (model prog w) A (call (.builtin "sorted") [v]) Q E s := by
  refine Calls.call_function_entry kind_sorted plain_sorted entry_sorted (args_sorted1 _) ?_
  unfold Builtin.«sorted»
  refine wpAny_bind (m := checkCount "sorted" 1 1 _) (wpAny_pure ?_)
  refine wpAny_bind (hcol _ _ fun h1 tk k1 => ?_)
  have hlen : vs.length = bs.length := e.length
  refine wpAny_bind (wpAny_newList ?_ (by omega))
  have k2 : ∀ b o, s.heap.get? b = some o → (h1.push (seqObj "list" vs.toArray 0)).get? b = some o := fun b o q => Heap.get?_push_of_some _ (k1 b o q)
  have hoL : (h1.push (seqObj "list" vs.toArray 0)).get? h1.objs.size = some (seqObj "list" vs.toArray 0) := Heap.get?_push_size _ rfl
  have er' : EachIs (fun v b => ∃ as, Reads (sortingHeap (h1.push (seqObj "list" vs.toArray 0)) h1.objs.size vs) v (enc b) as) vs bs := er.mono fun _ _ ⟨as, r⟩ => ⟨as, PyProof.Rows.Reads.keeps (fun b o q => sortingHeap_old (fun z => by subst z; exact absurd (Heap.lt_size (k1 _ _ q)) (Nat.lt_irrefl _)) (k2 b o q)) r⟩
  show wpAny _ _ _ _ _ { s with heap := h1.push (seqObj "list" vs.toArray 0), toks := tk }
  refine wpAny_bind (wpAny_holding (wpAny_call_entry slot_list_sort ⟨_, hoL, rfl⟩ entry_list_sort (list_sort_vals (s := { s with heap := h1.push (seqObj "list" vs.toArray 0), toks := tk }) (κ := dataKind (sortingHeap (h1.push (seqObj "list" vs.toArray 0)) h1.objs.size vs) (bs.map enc)) hoL
    (sorts_any (s := { s with heap := sortingHeap (h1.push (seqObj "list" vs.toArray 0)) h1.objs.size vs, toks := tk }) (each_map (R := fun v d => ∃ as, Reads (sortingHeap (h1.push (seqObj "list" vs.toArray 0)) h1.objs.size vs) v d as) enc er') hal ?_ (bound_map hu)) (by omega) ⟨_, rfl, ?_⟩) (args_list_sort _)))
  · rcases ht with ht | ht
    · refine .inl fun d hd => ?_
      obtain ⟨b, hb, rfl⟩ := List.mem_map.mp hd
      exact ht b hb
    · refine .inr fun d hd => ?_
      obtain ⟨b, hb, rfl⟩ := List.mem_map.mp hd
      exact ht b hb
  · obtain ⟨c, hc⟩ := sortedHeap_at (vs := vs) (out := (sortVals (dataKind (sortingHeap (h1.push (seqObj "list" vs.toArray 0)) h1.objs.size vs) (bs.map enc)) false vs vs).toArray) hoL
    exact wpAny_pure ⟨_, rfl, h _ h1 _ tk h1.objs.size c k1 (fun b o q => (sortedHeap_old (fun z => by subst z; exact absurd (Heap.lt_size q) (Nat.lt_irrefl _)) (Heap.lt_size (Heap.get?_push_of_some _ q))).trans (Heap.get?_push_of_some _ q)) rfl hc (by rw [sortVals_length false rfl]; exact hlen) (sortVals_data false e er' hal)⟩
end
end Nog

set_option Elab.async false
set_option linter.all false
set_option maxRecDepth 100000
set_option maxHeartbeats 1000000
/-! built-in functions -/
namespace Nog
open PySem L2 PyProof.Rows
open PySem.W (KdlSrc kdl_call kdl_extend EachIs)
mutual
theorem py_inj : ∀ d e : D, D.plain d = true → D.plain e = true → D.py d = D.py e → d = e
  | .non, e, _, he, h => by cases e <;> simp [D.py, D.plain] at h he ⊢
  | .bl b, e, _, he, h => by cases e <;> simp [D.py, D.plain] at h he ⊢; exact h
  | .int i, e, _, he, h => by cases e <;> simp [D.py, D.plain] at h he ⊢; exact h
  | .str s, e, _, he, h => by cases e <;> simp [D.py, D.plain] at h he ⊢; exact toS_inj (by simpa [toS] using h)
  | .tup xs, e, hd, he, h => by
    cases e <;> simp [D.py, D.plain] at h he hd ⊢
    exact pyL_inj xs _ hd he h
  | .ref _, _, hd, _, _ => by simp [D.plain] at hd
  | .fn _, _, hd, _, _ => by simp [D.plain] at hd
  | .rol _, _, hd, _, _ => by simp [D.plain] at hd
theorem pyL_inj : ∀ ds es : List D, D.plainL ds = true → D.plainL es = true → D.pyL ds = D.pyL es → ds = es
  | [], es, _, _, h => by cases es <;> simp [D.pyL] at h ⊢
  | x :: xs, [], _, _, h => by simp [D.pyL] at h
  | x :: xs, y :: ys, hd, he, h => by
    simp only [D.plainL, Bool.and_eq_true] at hd he
    simp only [D.pyL, List.cons.injEq] at h
    rw [py_inj x y hd.1 he.1 h.1, pyL_inj xs ys hd.2 he.2 h.2]
end
theorem pyL_map : ∀ ds : List D, D.pyL ds = ds.map D.py
  | [] => rfl
  | x :: xs => by rw [D.pyL, pyL_map xs, List.map_cons]
theorem plainL_mem : ∀ {ds : List D}, D.plainL ds = true → ∀ d ∈ ds, D.plain d = true
  | [], _, d, h => absurd h (by simp)
  | x :: xs, hp, d, h => by
    simp only [D.plainL, Bool.and_eq_true] at hp
    rcases List.mem_cons.mp h with rfl | h
    · exact hp.1
    · exact plainL_mem hp.2 d h
theorem depthL_mem : ∀ {ds : List D} {d : D}, d ∈ ds → D.depth d ≤ D.depthL ds
  | [], d, h => absurd h (by simp)
  | x :: xs, d, h => by
    rw [D.depthL]
    rcases List.mem_cons.mp h with rfl | h
    · exact Nat.le_max_left _ _
    · exact Nat.le_trans (depthL_mem h) (Nat.le_max_right _ _)
theorem alike_mem {ds : List D} (h : allAlike ds = true) {a b : D} (ha : a ∈ ds) (hb : b ∈ ds) : D.alike a b = true := by
  unfold allAlike at h
  exact List.all_eq_true.mp (List.all_eq_true.mp h a ha) b hb
theorem allAlike_py {ds : List D} (hp : D.plainL ds = true) (h : allAlike ds = true) : PySem.W.AllAlike (ds.map D.py) := by
  intro d hd d' hd'
  obtain ⟨a, ha, rfl⟩ := List.mem_map.mp hd
  obtain ⟨b, hb, rfl⟩ := List.mem_map.mp hd'
  rw [py_alike a b (plainL_mem hp a ha) (plainL_mem hp b hb)]
  exact alike_mem h ha hb
section
variable {X : Cx} {FA : Nat → Option Addr} {W : WX'} {θ : List Addr} {S : Sto} {H : Hp} {pins : List (Addr × Obj)} {τ : L2.St} {s : Shared}
/-- a tuple or a list -/
theorem seq_of {H₁ : Hp} {p : Pv} {x : V} {xs : List D} (m : Sim (gx X FA) θ S H) (rp : RepP (gx X FA) H₁ θ H p x) (e : p.seqI S = some xs) :
    ∃ a vs, x = .ref a ∧ RepL (gx X FA) θ H xs vs ∧ (SqL X.K H a vs ∨ SqT X.K H a vs) := by
  unfold Pv.seqI at e
  split at e
  · cases e
    obtain ⟨a, vs, rfl, h1, h2⟩ := RepP.t rp
    exact ⟨a, vs, rfl, h2, .inr h1⟩
  · obtain ⟨a, vs, rfl, h1, h2⟩ := lst_of m rp e
    exact ⟨a, vs, rfl, h1, .inl (lst_sq h2)⟩
/-- a dict -/
theorem dct_of {H₁ : Hp} {p : Pv} {x : V} {xs : List D} (m : Sim (gx X FA) θ S H) (rp : RepP (gx X FA) H₁ θ H p x) (e : p.dctI S = some xs) :
    ∃ a lk kvs es, x = .ref a ∧ xs = kvs.map (·.1) ∧ DctH X.w H a es lk ∧ KtR (gx X FA) θ H kvs es ∧ (kvs.map (·.1)).Nodup := by
  unfold Pv.dctI at e
  split at e
  · rename_i l
    obtain ⟨a, h1, rfl⟩ := RepP.r rp
    split at e
    · rename_i lk kvs q
      cases e
      obtain ⟨hn, es, h2, h3⟩ := m.ob l a _ h1 q
      exact ⟨a, lk, kvs, es, rfl, rfl, h2, h3, hn⟩
    · cases e
  · cases e
/-- a dict, as its raw entries -/
theorem dct_raw (I : Inv X pins τ H s) {a : Addr} {kvs : List (D × D)} {es : List KE3} {lk : Bool} (ha : DctH X.w H a es lk) (h : KtR (gx X FA) θ H kvs es) (hn : (kvs.map (·.1)).Nodup) :
    es.length ≤ sizeLine ∧ (a == sysModules) = false ∧ ∃ ents ep, s.heap.DictRaw a ents ep ∧ ents.size = es.length ∧ ∀ i (hi : i < ents.size), ∃ e, es[i]? = some e ∧ ents[i].key = .ref e.2.1 := by
  obtain ⟨hz, hs, us, t, hm⟩ := dict_lib I ha h hn
  obtain ⟨ents, ep, h1, h2, h3⟩ := hm.raw
  have l := zip3_length t
  refine ⟨hz, hs, ents, ep, h1, by omega, fun i hi => ?_⟩
  obtain ⟨y, y1, y2, _⟩ := h3 i hi
  have hi' : i < es.length := by omega
  refine ⟨es[i], List.getElem?_eq_getElem hi', ?_⟩
  rw [y2]
  have : ∀ {es : List KE3} {us : List Value}, Paired RelE es us → ∀ (i : Nat) (y : NestedKey × Addr × Value), (zip3 es us)[i]? = some y → ∃ e, es[i]? = some e ∧ y.2.1 = e.2.1 := by
    intro es us t
    induction t with
    | nil => intro i y e; simp [zip3] at e
    | @cons a b as bs r t ih =>
      intro i y e
      cases i with
      | zero =>
        simp [zip3] at e
        subst e
        exact ⟨a, rfl, rfl⟩
      | succ i => exact ih i y (by simpa [zip3] using e)
  obtain ⟨e, e1, e2⟩ := this t i y y1
  rw [List.getElem?_eq_getElem hi'] at e1
  cases e1
  rw [e2]
theorem KtR.at : ∀ {kvs : List (D × D)} {es : List KE3} {i : Nat} {e : KE3}, KtR (gx X FA) θ H kvs es → es[i]? = some e → ∃ p, kvs[i]? = some p ∧ Rep (gx X FA) θ H p.1 (.ref e.2.1)
  | _, _, _, _, .nil, h => by simp at h
  | _, _, 0, _, .cons h0 h1 h2 r, h => by
    simp at h
    subst h
    exact ⟨_, rfl, h1⟩
  | _, _, i + 1, _, .cons h0 h1 h2 r, h => by
    obtain ⟨p, e1, e2⟩ := KtR.at (i := i) r (by simpa using h)
    exact ⟨p, by simpa using e1, e2⟩

/-! ### len -/
theorem cr_len : CallR X (.builtin "len") (fun vs H Q => ∃ x, vs = [x] ∧ K1 (gx X FA) W (fun p S => bi1 .len S p) x H Q) := by
  intro pins s τ H xs us Q I r h
  obtain ⟨x, rfl, p, θ, S, H₁, m, rp, h⟩ := h
  dsimp only [bi1] at h
  split at h
  · rename_i z
    split at h
    · rename_i c
      obtain rfl := RepP.s rp
      simp only [fits, decide_eq_true_eq, lim_line] at c
      have l : (toS z).length = z.length := by show (toS z).cps.size = _; simp [toS]
      exact call_len pins s τ H _ us Q I r ⟨_, z.length, rfl, ⟨by rw [l]; exact c, l.symm⟩, h.val m .int⟩
    · exact h.elim
  · split at h
    · rename_i ys e
      unfold Pv.bag at e
      split at e
      · rename_i zs e'
        cases e
        obtain ⟨a, vs, rfl, h1, h2⟩ := seq_of m rp e'
        have l := h1.length
        refine call_len pins s τ H _ us Q I r ⟨_, ys.length, rfl, ?_, h.val m .int⟩
        exact h2.elim (fun q => .inl ⟨vs, q, l.symm⟩) fun q => .inr ⟨vs, q, l.symm⟩
      · obtain ⟨a, lk, kvs, es, rfl, rfl, h1, h2, h3⟩ := dct_of m rp e
        rw [Vals.ref1 r]
        obtain ⟨hz, hs, us, t, hm⟩ := dict_lib I h1 h2 h3
        have l := zip3_length t
        have l2 := h2.length
        have hn := line63
        have l3 : (kvs.map (·.1)).length = (zip3 es us).length := by rw [l, l2, List.length_map]
        rw [l3] at h
        exact call_len_dictH hs hm (by omega) ⟨.int ((zip3 es us).length : Nat), H, I.tok _, ⟨_, rfl⟩, h.val m .int⟩
    · exact h.elim

/-! ### tuple, list -/
theorem cr_tuple : CallR X (.type "tuple") (fun vs H Q => ∃ x, vs = [x] ∧ K1 (gx X FA) W (fun p S => bi1 .tuple S p) x H Q) := by
  intro pins s τ H xs us Q I r h
  obtain ⟨x, rfl, p, θ, S, H₁, m, rp, h⟩ := h
  dsimp only [bi1] at h
  split at h
  · exact rp.elim
  · split at h
    · rename_i ys e
      obtain ⟨a, vs, rfl, h1, h2⟩ := seq_of m rp e
      refine call_tuple_of pins s τ H _ us Q I r ⟨a, vs, rfl, ?_⟩
      rcases h2 with h2 | h2
      · exact .inl ⟨h2, fun l hl => h.newTup m h1 hl⟩
      · exact .inr ⟨h2, h.val m (.tup h2 h1)⟩
    · exact h.elim
theorem relV_ref {a : Addr} {u : Value} (h : RelV (.ref a) u) : u = .ref a := h
theorem vals_at : ∀ {vs : List V} {us : List Value}, vs.length = us.length → (∀ (j : Nat) (x : V) (u : Value), vs[j]? = some x → us[j]? = some u → RelV x u) → Vals vs us := fun h f => vals_of_at h f
/-- the keys, from what was collected -/
theorem keys_vals {es : List KE3} {ents : Array DictEntry} {acc : List Value} (hs : ents.size = es.length) (hk : ∀ i (hi : i < ents.size), ∃ e, es[i]? = some e ∧ ents[i].key = .ref e.2.1)
    (hl : acc.length = ents.size) (ha : ∀ j v, acc[j]? = some v → ∃ hi : j < ents.size, v = ents[j].key) : Vals (es.map fun e => V.ref e.2.1) acc := by
  refine vals_of_at (by rw [List.length_map]; omega) fun j x u hx hu => ?_
  obtain ⟨hi, rfl⟩ := ha j u hu
  obtain ⟨e, e1, e2⟩ := hk j hi
  rw [List.getElem?_map, e1] at hx
  cases hx
  rw [e2]
  rfl
theorem KtR.keyL {kvs : List (D × D)} {es : List KE3} (h : KtR (gx X FA) θ H kvs es) : RepL (gx X FA) θ H (kvs.map (·.1)) (es.map fun e => V.ref e.2.1) := by
  induction h with
  | nil => exact .nil
  | cons h0 h1 h2 r ih => exact .cons h1 ih
theorem cr_list (hc : X.calm = true) : CallR X (.type "list") (fun vs H Q => ∃ x, vs = [x] ∧ K1 (gx X FA) W (fun p S => bi1 .list S p) x H Q) := by
  intro pins s τ H xs us Q I r h
  obtain ⟨x, rfl, p, θ, S, H₁, m, rp, h⟩ := h
  dsimp only [bi1] at h
  split at h
  · exact rp.elim
  · split at h
    · rename_i ys e
      unfold Pv.bag at e
      split at e
      · rename_i zs e'
        cases e
        obtain ⟨a, vs, rfl, h1, h2⟩ := seq_of m rp e'
        exact call_list_of pins s τ H _ us Q I r ⟨a, vs, rfl, h2, fun l hl => h.newLst m h1 hl⟩
      · obtain ⟨a, lk, kvs, es, rfl, rfl, h1, h2, h3⟩ := dct_of m rp e
        rw [Vals.ref1 r]
        obtain ⟨hz, hs, ents, ep, hr, hl, hk⟩ := dct_raw I h1 h2 h3
        refine kdl_call (KdlSrc.rawDict hs) (I.ok.hd hc) hr (by omega) fun h' tk acc c' k e' hi => ?_
        have hv : Vals (es.map fun e => V.ref e.2.1) acc.toList := keys_vals hl hk (by rw [Array.length_toList]; exact hi.1) fun j v q => hi.2 j v (by rw [← Array.getElem?_toList]; exact q)
        refine ⟨.ref s.heap.objs.size, _, I.laid k (Nat.le_refl _) (show ObjOk X.prog X.w _ h' _ (.lst (es.map fun e => V.ref e.2.1)) from ⟨by rw [List.length_map]; exact hz, acc.toList, c', hv, by rw [Array.toArray_toList]; exact e'⟩), rfl, ?_⟩
        exact h.newLst m h2.keyL (I.hok.fresh (Nat.le_refl _))
    · exact h.elim
/-! ### sorted -/
theorem collect_kdl {P : Program} {w : World} {A : Around} {E : Value → Shared → Prop} {s : Shared} {T : String} {r d : Addr} {n : Nat} {Pp : Nat → Value → Prop} {OK : Heap → Prop} {Q : List Value → Shared → Prop} (K : KdlSrc P w T r d n Pp OK) (hh : A.handled = none) (hok : OK s.heap) (hn : n ≤ sizeLine)
    (hQ : ∀ (h' : Heap) (tk : Nat) (acc : Array Value), (∀ b o, s.heap.get? b = some o → h'.get? b = some o) → ItemsOf Pp acc n → Q acc.toList { s with heap := h', toks := tk }) :
    wpAny (model P w) A (collect (.ref r)) Q E s := by
  unfold collect
  refine wpAny_bind (wpAny_runValue (codeAny_builtin PySem.F.entry_proto_collect ?_))
  rw [Around.under_plainId PySem.F.plain_proto_collect _]
  show wpAny _ A.in1 (newList [] >>= fun l => again (.builtin "list.__iadd__" ⟨[l, .ref r], []⟩)) _ _ s
  refine wpAny_bind (wpAny_newObj_type ?_)
  refine wpAny_pure ⟨plainId_quiet PySem.F.plain_list_iadd _, codeAny_builtin PySem.F.entry_list_iadd ?_⟩
  rw [Around.under_plainId PySem.F.plain_list_iadd _]
  show wpAny _ A.in1 (Builtin.List.listExtendWith (.ref s.heap.objs.size) (.ref r) (.ref s.heap.objs.size)) _ _ _
  have hS : (s.heap.push { cls := .type "list", data := .seq ([] : List Value).toArray }).get? s.heap.objs.size = some { cls := .type "list", data := .seq #[] 0 } := Heap.get?_push_size _ rfl
  have hlt := K.there _ hok
  refine wpAny_mono (kdl_extend (A := A) (R := fun rr s' => rr = .ok (.ret (.ref s.heap.objs.size)) ∧ ∃ (h' : Heap) (tk : Nat) (acc : Array Value) (c' : Nat), s' = { s with heap := h', toks := tk } ∧
      (∀ b o, s.heap.get? b = some o → h'.get? b = some o) ∧ h'.get? s.heap.objs.size = some { cls := .type "list", dict := none, data := .seq acc c', slots := #[] } ∧ ItemsOf Pp acc n)
    (s := { s with heap := s.heap.push { cls := .type "list", data := .seq ([] : List Value).toArray } }) K hh (K.keep _ _ hok fun b _ o e => Heap.get?_push_of_some _ e) s.heap.objs.size (Nat.ne_of_gt hlt.1) (Nat.ne_of_gt hlt.2) (.ref s.heap.objs.size) 0 hS
    (fun h' tk acc c' hk e hi => ⟨rfl, h', tk, acc, c', rfl, fun b o q => hk b o (Nat.ne_of_lt (Heap.lt_size q)) (Heap.get?_push_of_some _ q), e, hi⟩) hn) (fun fin s' h => ?_) (fun e s' h => ?_)
  · cases fin with
    | done f =>
      obtain ⟨e, h', tk, acc, c', rfl, hk, hS', hi⟩ := h
      cases e
      show wpAny _ A (load s.heap.objs.size >>= _) _ _ _
      exact wpAny_bind (wpAny_load hS' (wpAny_pure (hQ h' tk acc hk hi)))
    | again c' =>
      refine ⟨h.1, codeAny_mono h.2 fun rr s'' hr' => ?_⟩
      obtain ⟨rfl, h', tk, acc, c', rfl, hk, hS', hi⟩ := hr'
      show wpAny _ A (load s.heap.objs.size >>= _) _ _ _
      exact wpAny_bind (wpAny_load hS' (wpAny_pure (hQ h' tk acc hk hi)))
  · exact absurd h.1 (by simp)
/-- items by value and by data together -/
inductive Rv (X : Cx) (FA : Nat → Option Addr) (θ : List Addr) (H : Hp) (h : Heap) (u : Value) (d : D) : Prop
  | mk {v : V} : RelV v u → Rep (gx X FA) θ H d v → Rv X FA θ H h u d
theorem each_rv {h : Heap} : ∀ {ds : List D} {vs : List V} {us : List Value}, RepL (gx X FA) θ H ds vs → Vals vs us → EachIs (Rv X FA θ H h) us ds
  | [], _, _, r, t => by
    obtain rfl := r.nil_inv
    cases t
    exact .nil
  | d :: ds, _, _, r, t => by
    obtain ⟨v, vs, rfl, r1, r2⟩ := r.cons_inv
    cases t with
    | cons t1 t2 => exact .cons ⟨t1, r1⟩ (each_rv r2 t2)
theorem rv_each {h : Heap} : ∀ {ds : List D} {us : List Value}, EachIs (Rv X FA θ H h) us ds → ∃ vs, RepL (gx X FA) θ H ds vs ∧ Vals vs us
  | _, _, .nil => ⟨[], .nil, .nil⟩
  | _, _, .cons (.mk r1 r2) t => let ⟨vs, a, b⟩ := rv_each t; ⟨_ :: vs, .cons r2 a, .cons r1 b⟩
theorem each_reads (I : Inv X pins τ H s) {h : Heap} : ∀ {ds : List D} {us : List Value}, D.plainL ds = true → EachIs (Rv X FA θ H h) us ds → EachIs (fun v b => ∃ as, Reads s.heap v (D.py b) as) us ds
  | _, _, _, .nil => .nil
  | d :: _, _, hp, .cons (.mk r1 r2) t => by
    simp only [D.plainL, Bool.and_eq_true] at hp
    exact .cons (Dp.reads I _ _ _ (r2.dp hp.1) r1) (each_reads I hp.2 t)
theorem okSort_inv {xs : List D} (h : okSort xs = true) : D.plainL xs = true ∧ allAlike xs = true ∧ D.depthL xs ≤ 60 ∧ ((∀ d ∈ xs, ∃ ys, d = .tup ys) ∨ ∀ d ∈ xs, d ≠ .non ∧ ∀ ys, d ≠ .tup ys) := by
  unfold okSort at h
  simp only [Bool.and_eq_true, Bool.or_eq_true, decide_eq_true_eq] at h
  obtain ⟨⟨⟨h1, h2⟩, h3⟩, h4⟩ := h
  refine ⟨h1, h2, h3, h4.elim (fun q => .inl fun d hd => ?_) fun q => .inr fun d hd => ?_⟩
  · have := List.all_eq_true.mp q d hd
    cases d <;> first | exact ⟨_, rfl⟩ | cases this
  · have := List.all_eq_true.mp q d hd
    simp only [Bool.and_eq_true, decide_eq_true_eq] at this
    refine ⟨this.2, ?_⟩
    rintro ys rfl
    simp [isTup] at this
theorem plain_py_tup {d : D} (h : D.plain d = true) : (∀ ys, d ≠ .tup ys) → ∀ ys, D.py d ≠ .tuple ys := by
  intro hn ys e
  cases d <;> simp [D.py] at e
  exact hn _ rfl
theorem plain_py_non {d : D} (h : D.plain d = true) (hn : d ≠ .non) : D.py d ≠ .none := by
  intro e
  cases d <;> simp [D.py, D.plain] at e h
  exact hn rfl
theorem sortD_link {xs : List D} (h : okSort xs = true) : xs.mergeSort (PySem.W.dataLe false D.py) = sortD xs := by
  obtain ⟨h1, h2, h3, h4⟩ := okSort_inv h
  refine PySem.W.sort_congr fun a ha b hb => ?_
  show (!PySem.W.dataLt (D.py b) (D.py a)) = !D.ltb b a
  have : b ≠ .non := by
    rcases h4 with q | q
    · obtain ⟨ys, rfl⟩ := q b hb; exact fun z => nomatch z
    · exact (q b hb).1
  rw [py_lt b a (plainL_mem h1 b hb) (plainL_mem h1 a ha) (alike_mem h2 hb ha) this]
theorem cr_sorted (hc : X.calm = true) (hu : RoomC X.A) : CallR X (.builtin "sorted") (fun vs H Q => ∃ x, vs = [x] ∧ K1 (gx X FA) W (fun p S => bi1 .sorted S p) x H Q) := by
  intro pins s τ H xs us Q I r h
  obtain ⟨x, rfl, p, θ, S, H₁, m, rp, h⟩ := h
  dsimp only [bi1] at h
  split at h
  · rename_i ys e
    split at h
    · rename_i ok
      obtain ⟨k1, k2, k3, k4⟩ := okSort_inv ok
      have go : ∀ (v : Value) (vs : List V) (its : List Value), RepL (gx X FA) θ H ys vs → Vals vs its → its.length ≤ sizeLine →
          (∀ (E' : Value → Shared → Prop) (Q' : List Value → Shared → Prop), (∀ (h' : Heap) (tk : Nat), (∀ b o, s.heap.get? b = some o → h'.get? b = some o) → Q' its { s with heap := h', toks := tk }) → wpAny (model X.prog X.w) X.A.in1 (collect v) Q' E' s) →
          wpAny (model X.prog X.w) X.A (call (.builtin "sorted") [v]) (EP X pins τ Q) X.xe s := by
        intro v vs its q1 q2 q3 hcol
        have ei := each_rv (h := s.heap) q1 q2
        have lz : its.length = ys.length := ei.length
        refine sorted_from hcol ei (each_reads I k1 ei) (allAlike_py k1 k2) ?_ (by omega) (fun b hb => ?_) fun out h1 h' tk D c a1 a2 a3 a4 a5 a6 => ?_
        · rcases k4 with q | q
          · refine .inl fun d hd => ?_
            obtain ⟨zs, rfl⟩ := q d hd
            exact ⟨_, rfl⟩
          · exact .inr fun d hd => ⟨plain_py_non (plainL_mem k1 d hd) (q d hd).1, plain_py_tup (plainL_mem k1 d hd) (q d hd).2⟩
        · rw [py_depth]
          have := depthL_mem hb
          have hu' : X.A.units + 100 < cLine := hu
          omega
        · rw [sortD_link ok] at a6
          obtain ⟨ws, w1, w2⟩ := rv_each a6
          have I1 : Inv X pins τ H { s with heap := h1, toks := tk } := I.kept a1
          subst a3
          have lo := w2.length
          refine ⟨.ref h1.objs.size, _, I1.laid (t' := tk) a2 (Nat.le_refl _) (show ObjOk X.prog X.w _ h' _ (.lst ws) from ⟨by omega, out, c, w2, a4⟩), rfl, ?_⟩
          exact h.newLst m w1 (I1.hok.fresh (Nat.le_refl _))
      unfold Pv.bag at e
      split at e
      · rename_i zs e'
        cases e
        obtain ⟨a, vs, rfl, h1, h2⟩ := seq_of m rp e'
        rw [Vals.ref1 r]
        rcases h2 with h2 | h2
        · obtain ⟨its, rv, pl, hz⟩ := I.list h2
          have hl := rv.length
          obtain ⟨o, ho, hc', n, hd⟩ := pl.isList
          refine go _ vs its h1 rv (by omega) fun E' Q' q => wpAny_collect_seq a (.inl rfl) ho hc' hd (fun h' k => ?_) (by simp only [List.size_toArray]; omega)
          exact q h' s.toks k
        · obtain ⟨its, rv, pl, hz⟩ := I.tuple h2
          have hl := rv.length
          obtain ⟨o, ho, hc', n, hd⟩ := pl
          refine go _ vs its h1 rv (by omega) fun E' Q' q => wpAny_collect_seq a (.inr rfl) ho hc' hd (fun h' k => ?_) (by simp only [List.size_toArray]; omega)
          exact q h' s.toks k
      · obtain ⟨a, lk, kvs, es, rfl, rfl, h1, h2, h3⟩ := dct_of m rp e
        rw [Vals.ref1 r]
        obtain ⟨hz, hs, ents, ep, hr, hl, hk⟩ := dct_raw I h1 h2 h3
        refine go _ (es.map fun e => V.ref e.2.1) (ents.toList.map (·.key)) h2.keyL (keys_vals hl hk (by simp) fun j v q => ?_) (by simp; omega) fun E' Q' q => ?_
        · rw [List.getElem?_map] at q
          obtain ⟨en, q1, rfl⟩ := Option.map_eq_some_iff.mp q
          rw [Array.getElem?_toList] at q1
          obtain ⟨hi, rfl⟩ := Array.getElem?_eq_some_iff.mp q1
          exact ⟨hi, rfl⟩
        · refine collect_kdl (KdlSrc.rawDict hs) (I.ok.hd hc) hr (by omega) fun h' tk acc k hi => ?_
          have : acc.toList = ents.toList.map (·.key) := by
            apply List.ext_getElem?
            intro j
            rw [Array.getElem?_toList, List.getElem?_map, Array.getElem?_toList]
            by_cases hj : j < ents.size
            · have hj' : j < acc.size := by rw [hi.1]; exact hj
              obtain ⟨_, e2⟩ := hi.2 j acc[j] (Array.getElem?_eq_getElem hj')
              rw [Array.getElem?_eq_getElem hj', Array.getElem?_eq_getElem hj, e2]
              rfl
            · rw [Array.getElem?_eq_none (by rw [hi.1]; omega), Array.getElem?_eq_none (by omega)]
              rfl
          rw [this]
          exact q h' tk k
    · exact h.elim
  · exact h.elim
end
end Nog

set_option Elab.async false
set_option linter.all false
set_option maxRecDepth 100000
set_option maxHeartbeats 1000000
/-! built-in functions: max, min, sum, int, abs, gcd, isinstance, dict -/
namespace Nog
open PySem L2 PyProof.Rows
open PySem.W (EachIs)
theorem okMax_inv {xs : List D} (h : okMax xs = true) : D.plainL xs = true ∧ allAlike xs = true ∧ D.depthL xs ≤ 60 ∧ ∀ d ∈ xs, d ≠ .non := by
  unfold okMax at h
  simp only [Bool.and_eq_true, decide_eq_true_eq] at h
  obtain ⟨⟨⟨h1, h2⟩, h3⟩, h4⟩ := h
  exact ⟨h1, h2, h3, fun d hd => by have := List.all_eq_true.mp h4 d hd; simpa using this⟩
theorem okMax_py {xs : List D} (h : okMax xs = true) : PySem.W.AlikeAll (D.pyL xs) := by
  obtain ⟨h1, h2, h3, h4⟩ := okMax_inv h
  rw [pyL_map]
  refine ⟨fun x hx y hy => allAlike_py h1 h2 x hx y hy, fun x hx => ?_⟩
  obtain ⟨d, hd, rfl⟩ := List.mem_map.mp hx
  exact plain_py_non (plainL_mem h1 d hd) (h4 d hd)
theorem maxD_link {L : List D} (h1 : D.plainL L = true) (h2 : allAlike L = true) (h4 : ∀ d ∈ L, d ≠ .non) : ∀ (xs : List D) (x : D), x ∈ L → (∀ y ∈ xs, y ∈ L) → PySem.W.maxD (D.py x) (D.pyL xs) = D.py (Nog.maxD x xs) ∧ Nog.maxD x xs ∈ L
  | [], x, hx, _ => ⟨rfl, hx⟩
  | y :: ys, x, hx, hy => by
    have hym := hy y List.mem_cons_self
    have e : PySem.W.dataLt (D.py x) (D.py y) = D.ltb x y := py_lt x y (plainL_mem h1 x hx) (plainL_mem h1 y hym) (alike_mem h2 hx hym) (h4 x hx)
    have e2 : PySem.W.maxD (D.py x) (D.pyL (y :: ys)) = PySem.W.maxD (if PySem.W.dataLt (D.py x) (D.py y) then D.py y else D.py x) (D.pyL ys) := rfl
    rw [e2, e, Nog.maxD]
    cases D.ltb x y with
    | true => exact maxD_link h1 h2 h4 ys y hym fun z hz => hy z (List.mem_cons_of_mem _ hz)
    | false => exact maxD_link h1 h2 h4 ys x hx fun z hz => hy z (List.mem_cons_of_mem _ hz)
theorem minD_link {L : List D} (h1 : D.plainL L = true) (h2 : allAlike L = true) (h4 : ∀ d ∈ L, d ≠ .non) : ∀ (xs : List D) (x : D), x ∈ L → (∀ y ∈ xs, y ∈ L) → PySem.W.minD (D.py x) (D.pyL xs) = D.py (Nog.minD x xs) ∧ Nog.minD x xs ∈ L
  | [], x, hx, _ => ⟨rfl, hx⟩
  | y :: ys, x, hx, hy => by
    have hym := hy y List.mem_cons_self
    have e : PySem.W.dataLt (D.py y) (D.py x) = D.ltb y x := py_lt y x (plainL_mem h1 y hym) (plainL_mem h1 x hx) (alike_mem h2 hym hx) (h4 y hym)
    have e2 : PySem.W.minD (D.py x) (D.pyL (y :: ys)) = PySem.W.minD (if PySem.W.dataLt (D.py y) (D.py x) then D.py y else D.py x) (D.pyL ys) := rfl
    rw [e2, e, Nog.minD]
    cases D.ltb y x with
    | true => exact minD_link h1 h2 h4 ys y hym fun z hz => hy z (List.mem_cons_of_mem _ hz)
    | false => exact minD_link h1 h2 h4 ys x hx fun z hz => hy z (List.mem_cons_of_mem _ hz)
section
variable {X : Cx} {FA : Nat → Option Addr} {W : WX'} {θ : List Addr} {S : Sto} {H : Hp} {pins : List (Addr × Obj)} {τ : L2.St} {s : Shared}
theorem vals_get : ∀ {vs : List V} {us : List Value} {i : Nat} {u : Value}, Vals vs us → us[i]? = some u → ∃ v, vs[i]? = some v ∧ RelV v u
  | _, _, _, _, .nil, e => by simp at e
  | _, _, 0, _, .cons r t, e => by simp at e; subst e; exact ⟨_, rfl, r⟩
  | _, _, i + 1, _, .cons r t, e => by
    obtain ⟨v, h1, h2⟩ := vals_get (i := i) t (by simpa using e)
    exact ⟨v, by simpa using h1, h2⟩
/-- the item that was found is this one -/
theorem best_rep {ds : List D} {vs : List V} {its : List Value} {i : Nat} {v : Value} {h' : Heap} {tk : Nat} {bs : List Addr} {b : D} (I : Inv X pins τ H s) (q1 : RepL (gx X FA) θ H ds vs) (q2 : Vals vs its) (hv : its[i]? = some v) (hp : D.plainL ds = true) (ha : allAlike ds = true)
    (hb : b ∈ ds) (r : Reads h' v (D.py b) bs) (k : ∀ b o, s.heap.get? b = some o → h'.get? b = some o) : ∃ x, RelV x v ∧ Rep (gx X FA) θ H b x := by
  obtain ⟨x, h1, h2⟩ := vals_get q2 hv
  obtain ⟨d, h3, h4⟩ := q1.get' h1
  have hd : d ∈ ds := List.mem_iff_getElem?.mpr ⟨i, h3⟩
  obtain ⟨as, h5⟩ := Dp.reads I _ _ _ (h4.dp (plainL_mem hp d hd)) h2
  have e := PySem.W.alike_unique _ _ _ _ _ (allAlike_py hp ha _ (List.mem_map.mpr ⟨d, hd, rfl⟩) _ (List.mem_map.mpr ⟨b, hb, rfl⟩)) (Reads.keeps k h5) r
  have := py_inj d b (plainL_mem hp d hd) (plainL_mem hp b hb) e
  subst this
  exact ⟨x, h2, h4⟩
theorem cr_max (hc : X.calm = true) (hu : RoomC X.A) : CallR X (.builtin "max") (fun vs H Q => ∃ x, vs = [x] ∧ K1 (gx X FA) W (fun p S => bi1 .max S p) x H Q) := by
  intro pins s τ H xs us Q I r h
  obtain ⟨x, rfl, p, θ, S, H₁, m, rp, h⟩ := h
  dsimp only [bi1] at h
  split at h
  · rename_i y ys e
    split at h
    · rename_i ok
      obtain ⟨k1, k2, k3, k4⟩ := okMax_inv ok
      obtain ⟨a, vs, rfl, h1, h2⟩ := seq_of m rp e
      rw [Vals.ref1 r]
      have hu' : X.A.units + 100 < cLine := hu
      obtain ⟨l1, l2⟩ := maxD_link k1 k2 k4 ys y List.mem_cons_self fun z hz => List.mem_cons_of_mem _ hz
      have room : X.A.units + 1 + PyData.depthAll (D.pyL (y :: ys)) < cLine := by rw [pyL_depth]; omega
      have fin : ∀ (its : List Value), Vals vs its → ∀ (i : Nat) (v : Value) (h' : Heap) (tk : Nat) (bs : List Addr), its.toArray[i]? = some v → Reads h' v (PySem.W.maxD (D.py y) (D.pyL ys)) bs → (∀ b o, s.heap.get? b = some o → h'.get? b = some o) → EP X pins τ Q v { s with heap := h', toks := tk } := by
        intro its rv i v h' tk bs e1 e2 e3
        rw [l1] at e2
        obtain ⟨x, r1, r2⟩ := best_rep (tk := tk) I h1 rv (by simpa using e1) k1 k2 l2 e2 e3
        exact ⟨x, H, I.kept e3, r1, h.val m r2⟩
      rcases h2 with h2 | h2
      · obtain ⟨its, rv, pl, hz⟩ := I.list h2
        obtain ⟨as, hr⟩ := Dp.readsAll I _ _ _ (h1.dp k1) rv
        exact PySem.W.max_list_data (I.ok.hd hc) pl.isList (by simpa [D.pyL] using hr) (okMax_py ok) room (fin its rv)
      · obtain ⟨its, rv, pl, hz⟩ := I.tuple h2
        obtain ⟨as, hr⟩ := Dp.readsAll I _ _ _ (h1.dp k1) rv
        exact PySem.W.max_tuple_data (I.ok.hd hc) (show s.heap.IsTuple a its.toArray from pl) (by simpa [D.pyL] using hr) (okMax_py ok) room (fin its rv)
    · exact h.elim
  · exact h.elim
theorem cr_min (hc : X.calm = true) (hu : RoomC X.A) : CallR X (.builtin "min") (fun vs H Q => ∃ x, vs = [x] ∧ K1 (gx X FA) W (fun p S => bi1 .min S p) x H Q) := by
  intro pins s τ H xs us Q I r h
  obtain ⟨x, rfl, p, θ, S, H₁, m, rp, h⟩ := h
  dsimp only [bi1] at h
  split at h
  · rename_i y ys e
    split at h
    · rename_i ok
      obtain ⟨k1, k2, k3, k4⟩ := okMax_inv ok
      obtain ⟨a, vs, rfl, h1, h2⟩ := seq_of m rp e
      rw [Vals.ref1 r]
      have hu' : X.A.units + 100 < cLine := hu
      obtain ⟨l1, l2⟩ := minD_link k1 k2 k4 ys y List.mem_cons_self fun z hz => List.mem_cons_of_mem _ hz
      have room : X.A.units + 1 + PyData.depthAll (D.pyL (y :: ys)) < cLine := by rw [pyL_depth]; omega
      have fin : ∀ (its : List Value), Vals vs its → ∀ (i : Nat) (v : Value) (h' : Heap) (tk : Nat) (bs : List Addr), its.toArray[i]? = some v → Reads h' v (PySem.W.minD (D.py y) (D.pyL ys)) bs → (∀ b o, s.heap.get? b = some o → h'.get? b = some o) → EP X pins τ Q v { s with heap := h', toks := tk } := by
        intro its rv i v h' tk bs e1 e2 e3
        rw [l1] at e2
        obtain ⟨x, r1, r2⟩ := best_rep (tk := tk) I h1 rv (by simpa using e1) k1 k2 l2 e2 e3
        exact ⟨x, H, I.kept e3, r1, h.val m r2⟩
      rcases h2 with h2 | h2
      · obtain ⟨its, rv, pl, hz⟩ := I.list h2
        obtain ⟨as, hr⟩ := Dp.readsAll I _ _ _ (h1.dp k1) rv
        exact PySem.W.min_list_data (I.ok.hd hc) pl.isList (by simpa [D.pyL] using hr) (okMax_py ok) room (fin its rv)
      · obtain ⟨its, rv, pl, hz⟩ := I.tuple h2
        obtain ⟨as, hr⟩ := Dp.readsAll I _ _ _ (h1.dp k1) rv
        exact PySem.W.min_tuple_data (I.ok.hd hc) (show s.heap.IsTuple a its.toArray from pl) (by simpa [D.pyL] using hr) (okMax_py ok) room (fin its rv)
    · exact h.elim
  · exact h.elim
/-- max(xs, default=d), min(xs, default=d): d by value -/
theorem cr_maxd (hc : X.calm = true) (hu : RoomC X.A) : CallRK X (.builtin "max") [Str.ofString "default"] (fun vs zs H Q => ∃ x y, vs = [x] ∧ zs = [y] ∧ K2 (gx X FA) W (fun p q S => match q with | .val d => mxdP .max S p d | _ => .no) x y H Q) := by
  intro pins s τ H xs zs us ws Q I r r' h
  obtain ⟨x, z, rfl, rfl, p, q, θ, S, H₁, H₂, m, rp, rq, h⟩ := h
  obtain ⟨w', rfl, rw'⟩ := vals1 r'
  dsimp only at h
  split at h
  · rename_i d
    have rd : Rep (gx X FA) θ H d z := rq
    unfold mxdP at h
    have hu' : X.A.units + 100 < cLine := hu
    have go : ∀ (ys : List D), p.seqI S = some ys → D.plainL ys = true → okMax ys = true → (ys = [] → Q z H) → (∀ y l, ys = y :: l → ∀ v, Rep (gx X FA) θ H (Nog.maxD y l) v → Q v H) → wpAny (model X.prog X.w) X.A (call (.builtin "max") us [(Str.ofString "default", w')]) (EP X pins τ Q) X.xe s := by
      intro ys e k0 ok q0 qs
      obtain ⟨k1, k2, k3, k4⟩ := okMax_inv ok
      obtain ⟨a, vs, rfl, h1, h2⟩ := seq_of m rp e
      rw [Vals.ref1 r]
      have room : X.A.units + 1 + PyData.depthAll (D.pyL ys) < cLine := by rw [pyL_depth]; omega
      have f0 : D.pyL ys = [] → ∀ (h' : Heap) (tk : Nat), (∀ b o, s.heap.get? b = some o → h'.get? b = some o) → EP X pins τ Q w' { s with heap := h', toks := tk } := fun e1 h' tk k =>
        ⟨z, H, I.kept k, rw', q0 (by cases ys with | nil => rfl | cons _ _ => cases e1)⟩
      have fin : ∀ (its : List Value), Vals vs its → ∀ (y : PyData) (l : List PyData) (i : Nat) (v : Value) (h' : Heap) (tk : Nat) (bs : List Addr), D.pyL ys = y :: l → its.toArray[i]? = some v → Reads h' v (PySem.W.maxD y l) bs → (∀ b o, s.heap.get? b = some o → h'.get? b = some o) → EP X pins τ Q v { s with heap := h', toks := tk } := by
        intro its rv y l i v h' tk bs e0 e1 e2 e3
        cases ys with
        | nil => cases e0
        | cons b bl =>
          cases e0
          obtain ⟨l1, l2⟩ := maxD_link k1 k2 k4 bl b List.mem_cons_self fun z hz => List.mem_cons_of_mem _ hz
          rw [l1] at e2
          obtain ⟨x, r1, r2⟩ := best_rep (tk := tk) I h1 rv (by simpa using e1) k1 k2 l2 e2 e3
          exact ⟨x, H, I.kept e3, r1, qs b bl rfl x r2⟩
      rcases h2 with h2 | h2
      · obtain ⟨its, rv, pl, hz⟩ := I.list h2
        obtain ⟨as, hr⟩ := Dp.readsAll I _ _ _ (h1.dp k1) rv
        exact PySem.W.max_list_default (I.ok.hd hc) pl.isList (by simpa using hr) (okMax_py ok) room f0 (fin its rv)
      · obtain ⟨its, rv, pl, hz⟩ := I.tuple h2
        obtain ⟨as, hr⟩ := Dp.readsAll I _ _ _ (h1.dp k1) rv
        exact PySem.W.max_tuple_default (I.ok.hd hc) (show s.heap.IsTuple a its.toArray from pl) (by simpa using hr) (okMax_py ok) room f0 (fin its rv)
    split at h
    · rename_i e
      exact go [] e rfl rfl (fun _ => h.val m rd) fun y l e' => nomatch e'
    · rename_i y ys e
      split at h
      · rename_i ok
        exact go _ e (okMax_inv ok).1 ok (fun z => nomatch z) fun y l e' v rv => by cases e'; exact h.val m rv
      · exact h.elim
    · exact h.elim
  · exact h.elim
theorem cr_mind (hc : X.calm = true) (hu : RoomC X.A) : CallRK X (.builtin "min") [Str.ofString "default"] (fun vs zs H Q => ∃ x y, vs = [x] ∧ zs = [y] ∧ K2 (gx X FA) W (fun p q S => match q with | .val d => mxdP .min S p d | _ => .no) x y H Q) := by
  intro pins s τ H xs zs us ws Q I r r' h
  obtain ⟨x, z, rfl, rfl, p, q, θ, S, H₁, H₂, m, rp, rq, h⟩ := h
  obtain ⟨w', rfl, rw'⟩ := vals1 r'
  dsimp only at h
  split at h
  · rename_i d
    have rd : Rep (gx X FA) θ H d z := rq
    unfold mxdP at h
    have hu' : X.A.units + 100 < cLine := hu
    have go : ∀ (ys : List D), p.seqI S = some ys → D.plainL ys = true → okMax ys = true → (ys = [] → Q z H) → (∀ y l, ys = y :: l → ∀ v, Rep (gx X FA) θ H (Nog.minD y l) v → Q v H) → wpAny (model X.prog X.w) X.A (call (.builtin "min") us [(Str.ofString "default", w')]) (EP X pins τ Q) X.xe s := by
      intro ys e k0 ok q0 qs
      obtain ⟨k1, k2, k3, k4⟩ := okMax_inv ok
      obtain ⟨a, vs, rfl, h1, h2⟩ := seq_of m rp e
      rw [Vals.ref1 r]
      have room : X.A.units + 1 + PyData.depthAll (D.pyL ys) < cLine := by rw [pyL_depth]; omega
      have f0 : D.pyL ys = [] → ∀ (h' : Heap) (tk : Nat), (∀ b o, s.heap.get? b = some o → h'.get? b = some o) → EP X pins τ Q w' { s with heap := h', toks := tk } := fun e1 h' tk k =>
        ⟨z, H, I.kept k, rw', q0 (by cases ys with | nil => rfl | cons _ _ => cases e1)⟩
      have fin : ∀ (its : List Value), Vals vs its → ∀ (y : PyData) (l : List PyData) (i : Nat) (v : Value) (h' : Heap) (tk : Nat) (bs : List Addr), D.pyL ys = y :: l → its.toArray[i]? = some v → Reads h' v (PySem.W.minD y l) bs → (∀ b o, s.heap.get? b = some o → h'.get? b = some o) → EP X pins τ Q v { s with heap := h', toks := tk } := by
        intro its rv y l i v h' tk bs e0 e1 e2 e3
        cases ys with
        | nil => cases e0
        | cons b bl =>
          cases e0
          obtain ⟨l1, l2⟩ := minD_link k1 k2 k4 bl b List.mem_cons_self fun z hz => List.mem_cons_of_mem _ hz
          rw [l1] at e2
          obtain ⟨x, r1, r2⟩ := best_rep (tk := tk) I h1 rv (by simpa using e1) k1 k2 l2 e2 e3
          exact ⟨x, H, I.kept e3, r1, qs b bl rfl x r2⟩
      rcases h2 with h2 | h2
      · obtain ⟨its, rv, pl, hz⟩ := I.list h2
        obtain ⟨as, hr⟩ := Dp.readsAll I _ _ _ (h1.dp k1) rv
        exact PySem.W.min_list_default (I.ok.hd hc) pl.isList (by simpa using hr) (okMax_py ok) room f0 (fin its rv)
      · obtain ⟨its, rv, pl, hz⟩ := I.tuple h2
        obtain ⟨as, hr⟩ := Dp.readsAll I _ _ _ (h1.dp k1) rv
        exact PySem.W.min_tuple_default (I.ok.hd hc) (show s.heap.IsTuple a its.toArray from pl) (by simpa using hr) (okMax_py ok) room f0 (fin its rv)
    split at h
    · rename_i e
      exact go [] e rfl rfl (fun _ => h.val m rd) fun y l e' => nomatch e'
    · rename_i y ys e
      split at h
      · rename_i ok
        exact go _ e (okMax_inv ok).1 ok (fun z => nomatch z) fun y l e' v rv => by cases e'; exact h.val m rv
      · exact h.elim
    · exact h.elim
  · exact h.elim
/-! ### sum, int, abs, two ints -/
theorem sumI_ints : ∀ {xs : List D} {n : Int} {vs : List V}, sumI xs = some n → RepL (gx X FA) θ H xs vs → ∃ ns : List Int, vs = ns.map V.int ∧ ns.sum = n
  | [], n, _, e, r => by
    rw [sumI] at e
    cases e
    exact ⟨[], by rw [r.nil_inv]; rfl, rfl⟩
  | d :: ds, n, _, e, r => by
    obtain ⟨v, vs, rfl, r1, r2⟩ := r.cons_inv
    cases d with
    | int i =>
      rw [sumI] at e
      obtain ⟨m, e1, rfl⟩ := Option.map_eq_some_iff.mp e
      obtain ⟨ns, rfl, e2⟩ := sumI_ints e1 r2
      exact ⟨i :: ns, by rw [Rep.int_inv r1]; rfl, by rw [List.sum_cons, e2]⟩
    | _ => simp [sumI] at e
theorem cr_sumP (hc : X.calm = true) : CallR X (.builtin "sum") (fun vs H Q => ∃ x, vs = [x] ∧ K1 (gx X FA) W (fun p S => bi1 .sum S p) x H Q) := by
  intro pins s τ H xs us Q I r h
  obtain ⟨x, rfl, p, θ, S, H₁, m, rp, h⟩ := h
  dsimp only [bi1] at h
  split at h
  · rename_i n e
    obtain ⟨ys, e1, e2⟩ := Option.bind_eq_some_iff.mp e
    obtain ⟨a, vs, rfl, h1, h2⟩ := lst_of m rp e1
    obtain ⟨ns, rfl, rfl⟩ := sumI_ints e2 h1
    exact cr_sum hc pins s τ H _ us Q I r ⟨a, ns, rfl, lst_sq h2, h.val m .int⟩
  · exact h.elim
theorem cr_int : CallR X (.type "int") (fun vs H Q => ∃ x, vs = [x] ∧ K1 (gx X FA) W (fun p S => bi1 .int S p) x H Q) := by
  intro pins s τ H xs us Q I r h
  obtain ⟨x, rfl, p, θ, S, H₁, m, rp, h⟩ := h
  dsimp only [bi1] at h
  split at h
  · obtain rfl := RepP.i rp
    exact call_int1 pins s τ H _ us Q I r (.inl ⟨_, rfl, h.val m .int⟩)
  · obtain rfl := RepP.b rp
    exact call_int1 pins s τ H _ us Q I r (.inr ⟨_, rfl, h.val m .int⟩)
  · exact h.elim
theorem cr_abs : CallR X (.builtin "abs") (fun vs H Q => ∃ x, vs = [x] ∧ K1 (gx X FA) W (fun p S => bi1 .abs S p) x H Q) := by
  intro pins s τ H xs us Q I r h
  obtain ⟨x, rfl, p, θ, S, H₁, m, rp, h⟩ := h
  dsimp only [bi1] at h
  split at h
  · obtain rfl := RepP.i rp
    exact call_abs pins s τ H _ us Q I r ⟨_, rfl, h.val m .int⟩
  · exact h.elim
/-- two values in, by value -/
def bi2P (b : Bi) (p q : Pv) (S : Sto) : Rs Pv := match p, q with
    | .val x, .val y => bi2 b S x y
    | _, _ => .no
theorem bi2_ints {b : Bi} {p q : Pv} {S : Sto} (h : bi2P b p q S ≠ .no) : ∃ i j, p = .val (.int i) ∧ q = .val (.int j) := by
  unfold bi2P at h
  split at h
  · unfold bi2 at h
    split at h
    · exact ⟨_, _, rfl, rfl⟩
    · exact ⟨_, _, rfl, rfl⟩
    · exact ⟨_, _, rfl, rfl⟩
    · exact ⟨_, _, rfl, rfl⟩
    · exact absurd rfl h
  · exact absurd rfl h
theorem post_some {G : Gx} {r : Rs Pv} {Q : VK} (h : Post G W θ H r Q) : r ≠ .no := by
  rintro rfl
  exact h
theorem cr_max2P (hc : X.calm = true) : CallR X (.builtin "max") (fun vs H Q => ∃ x y, vs = [x, y] ∧ K2 (gx X FA) W (bi2P .max) x y H Q) := by
  intro pins s τ H xs us Q I r h
  obtain ⟨x, y, rfl, p, q, θ, S, H₁, H₂, m, rp, rq, h⟩ := h
  obtain ⟨i, j, rfl, rfl⟩ := bi2_ints (post_some h)
  obtain rfl := RepP.i rp
  obtain rfl := RepP.i rq
  exact call_max2 hc pins s τ H _ us Q I r ⟨i, j, rfl, h.val m .int⟩
theorem cr_min2P (hc : X.calm = true) : CallR X (.builtin "min") (fun vs H Q => ∃ x y, vs = [x, y] ∧ K2 (gx X FA) W (bi2P .min) x y H Q) := by
  intro pins s τ H xs us Q I r h
  obtain ⟨x, y, rfl, p, q, θ, S, H₁, H₂, m, rp, rq, h⟩ := h
  obtain ⟨i, j, rfl, rfl⟩ := bi2_ints (post_some h)
  obtain rfl := RepP.i rp
  obtain rfl := RepP.i rq
  exact call_min2 hc pins s τ H _ us Q I r ⟨i, j, rfl, h.val m .int⟩
theorem cr_gcdP : CallR X (.builtin "math.gcd") (fun vs H Q => ∃ x y, vs = [x, y] ∧ K2 (gx X FA) W (bi2P .gcd) x y H Q) := by
  intro pins s τ H xs us Q I r h
  obtain ⟨x, y, rfl, p, q, θ, S, H₁, H₂, m, rp, rq, h⟩ := h
  obtain ⟨i, j, rfl, rfl⟩ := bi2_ints (post_some h)
  obtain rfl := RepP.i rp
  obtain rfl := RepP.i rq
  exact cr_gcd pins s τ H _ us Q I r ⟨i, j, rfl, h.val m .int⟩
theorem lcm_log {a b : Nat} (ha : a.log2 < 13000) (hb : b.log2 < 13000) : ((((Nat.lcm 1 a).lcm b : Nat) : Int)).natAbs.log2 < bitsLine := by
  rw [Int.natAbs_natCast, Nat.lcm_one_left]
  by_cases h0 : a.lcm b = 0
  · rw [h0, Nat.log2_zero]; unfold bitsLine; exact Nat.pow_pos (by decide)
  · have a0 : a ≠ 0 := fun e => h0 (by rw [e, Nat.lcm_zero_left])
    have b0 : b ≠ 0 := fun e => h0 (by rw [e, Nat.lcm_zero_right])
    have h1 : a < 2 ^ 13000 := (Nat.log2_lt a0).mp ha
    have h2 : b < 2 ^ 13000 := (Nat.log2_lt b0).mp hb
    have h3 : a.lcm b ≤ a * b := Nat.le_of_dvd (Nat.mul_pos (by omega) (by omega)) (Nat.lcm_dvd_mul a b)
    have h4 : a * b < 2 ^ 13000 * 2 ^ 13000 := Nat.mul_lt_mul'' h1 h2
    rw [← Nat.pow_add] at h4
    have h5 : (a.lcm b).log2 < 26000 := (Nat.log2_lt h0).mpr (Nat.lt_of_le_of_lt h3 h4)
    refine Nat.lt_trans h5 ?_
    unfold bitsLine
    decide
theorem cr_lcmP : CallR X (.builtin "math.lcm") (fun vs H Q => ∃ x y, vs = [x, y] ∧ K2 (gx X FA) W (bi2P .lcm) x y H Q) := by
  intro pins s τ H xs us Q I r h
  obtain ⟨x, y, rfl, p, q, θ, S, H₁, H₂, m, rp, rq, h⟩ := h
  obtain ⟨i, j, rfl, rfl⟩ := bi2_ints (post_some h)
  obtain rfl := RepP.i rp
  obtain rfl := RepP.i rq
  have h' : Post (gx X FA) W θ H (if decide (i.natAbs.log2 < 13000) && decide (j.natAbs.log2 < 13000) then .ok (.val (.int (Nat.lcm i.natAbs j.natAbs))) S else .no) Q := h
  split at h'
  · rename_i hc
    simp only [Bool.and_eq_true, decide_eq_true_eq] at hc
    obtain ⟨t, u, rfl⟩ := Vals.int2 r
    have e1 : ∀ n : Nat, n.log2 < 13000 → ¬ n.log2 / 30 + 1 > 450 := fun n h => by omega
    have m1 : (max 1 i.natAbs).log2 < 13000 := by
      rcases Nat.le_total 1 i.natAbs with z | z
      · rw [Nat.max_eq_right z]; exact hc.1
      · rw [Nat.max_eq_left z]; decide
    have m2 : (max i.natAbs j.natAbs).log2 < 13000 := by
      rcases Nat.le_total i.natAbs j.natAbs with z | z
      · rw [Nat.max_eq_right z]; exact hc.2
      · rw [Nat.max_eq_left z]; exact hc.1
    refine call_function_meets PySem.W.MGF.kind_lcm PySem.W.MGF.plain_lcm PySem.W.MGF.entry_lcm (PySem.W.MGF.args_lcm _ _) (PySem.W.mg_run_lcm i t j u (e1 _ m1) (e1 _ m2) (lcm_log hc.1 hc.2)).meets ?_
    rw [Nat.lcm_one_left]
    exact ⟨.int _, H, I.tok _, ⟨_, rfl⟩, h'.val m .int⟩
  · exact h'.elim
end
end Nog

set_option Elab.async false
set_option linter.all false
set_option maxRecDepth 100000
set_option maxHeartbeats 1000000
/-! dict(pairs), dict displays, isinstance -/
namespace Nog
open PySem L2 PyProof.Rows
section
variable {X : Cx} {FA : Nat → Option Addr} {W : WX'} {θ : List Addr} {S : Sto} {H : Hp} {pins : List (Addr × Obj)} {τ : L2.St} {s : Shared}
/-- a new object of the store, at once in it -/
theorem Post.newObj {G : Gx} {a : Addr} {ho : HO} {o : O} {Q : VK} (h : Post G W θ H (.ok (.val (.ref S.length)) (S ++ [o])) Q) (m : Sim G θ S H) (ha : H a = none) (hob : ObR G θ (upd H a ho) a o) : Q (.ref a) (upd H a ho) := by
  refine h (θ ++ [a]) (upd H a ho) (.ref a) (Ext.join ha (.new ha)) ((m.new ha).join (m.free ha) hob) (show Rep G (θ ++ [a]) (upd H a ho) (.ref S.length) (.ref a) from Rep.ref ?_)
  rw [← m.len, List.getElem?_append_right (Nat.le_refl _), Nat.sub_self]
  rfl
theorem pairs_read (I : Inv X pins τ H s) : ∀ {ys : List D} {kvs : List (D × D)} {vs : List V} {its : List Value}, pairsOf ys = some kvs → RepL (gx X FA) θ H ys vs → Vals vs its →
    ∃ (es : List KE3) (us : List Value), KtR (gx X FA) θ H kvs es ∧ Paired RelE es us ∧ its.length = es.length ∧ ∀ (j : Nat) (e : KE3) (u : Value), es[j]? = some e → us[j]? = some u → ∃ T, its[j]? = some (.ref T) ∧ PairAt s.heap T (.ref e.2.1) u
  | [], kvs, _, _, e, r, t => by
    rw [pairsOf] at e
    cases e
    obtain rfl := r.nil_inv
    cases t
    exact ⟨[], [], .nil, .nil, rfl, fun j e u h => by simp at h⟩
  | y :: ys, kvs, _, _, e, r, t => by
    obtain ⟨v, vs, rfl, r1, r2⟩ := r.cons_inv
    cases t with
    | @cons _ u _ us t1 t2 =>
      unfold pairsOf at e
      split at e
      · cases ‹_ :: _ = []›
      · rename_i k d rest heq
        cases heq
        split at e
        · rename_i ok
          obtain ⟨kr, e1, rfl⟩ := Option.map_eq_some_iff.mp e
          obtain ⟨es, us', h1, h2, h3, h4⟩ := pairs_read I e1 r2 t2
          obtain ⟨T, ws, rfl, q1, q2⟩ := Rep.tup_inv r1
          obtain ⟨kv, ws', rfl, q3, q4⟩ := q2.cons_inv
          obtain ⟨dv, ws'', rfl, q5, q6⟩ := q4.cons_inv
          obtain rfl := q6.nil_inv
          obtain ⟨⟨ks, rfl⟩, _⟩ := okKey_inv ok
          obtain ⟨b, _, rfl, _⟩ := Rep.tup_inv q3
          obtain ⟨uu, rv, pl, hz⟩ := I.tuple q1
          cases rv with
          | cons x1 x2 =>
            cases x2 with
            | cons x3 x4 =>
              cases x4
              cases (show _ = Value.ref b from x1)
              cases (show u = Value.ref T from t1)
              refine ⟨(D.nk (.tup ks), b, dv) :: es, _ :: us', .cons ok q3 q5 h1, .cons x3 h2, by simp [h3], fun j e u h5 h6 => ?_⟩
              cases j with
              | zero =>
                simp at h5 h6
                subst h5 h6
                exact ⟨T, rfl, .inl (show s.heap.IsTuple T _ from pl)⟩
              | succ j =>
                obtain ⟨T', x5, x6⟩ := h4 j e u (by simpa using h5) (by simpa using h6)
                exact ⟨T', by simpa using x5, x6⟩
        · cases e
      · cases e
theorem putAll_rep : ∀ {kvs : List (D × D)} {es : List KE3} {us : List Value}, KtR (gx X FA) θ H kvs es → Paired RelE es us → ∀ {kvs0 : List (D × D)} {es0 : List KE3} {us0 : List Value}, KtR (gx X FA) θ H kvs0 es0 → Paired RelE es0 us0 → (kvs0.map (·.1)).Nodup →
    ∃ es' us', KtR (gx X FA) θ H (putAll kvs0 kvs) es' ∧ Paired RelE es' us' ∧ storedAllH (zip3 es0 us0) (zip3 es us) = zip3 es' us' ∧ ((putAll kvs0 kvs).map (·.1)).Nodup ∧ es'.length ≤ es0.length + es.length
  | _, _, _, .nil, .nil, kvs0, es0, us0, k0, p0, n0 => ⟨es0, us0, by rw [putAll]; exact k0, p0, rfl, by rw [putAll]; exact n0, by simp⟩
  | _, _, _, .cons (ks := ks) (a := a) (v := v) (d := d) ok h1 h2 r, .cons (b := u) x t, kvs0, es0, us0, k0, p0, n0 => by
    obtain ⟨us', t', e⟩ := stored_zip (k := D.nk (.tup ks)) (a := a) x p0 (k0.nodup n0)
    obtain ⟨es2, us2, q1, q2, q3, q4, q5⟩ := putAll_rep r t (k0.put ok h1 h2) t' (putD_nodup _ _ n0)
    refine ⟨es2, us2, by rw [putAll]; exact q1, q2, ?_, by rw [putAll]; exact q4, ?_⟩
    · rw [zip3]
      show storedAllH (storedH (zip3 es0 us0) (D.nk (.tup ks)) a u) (zip3 _ _) = _
      rw [e]
      exact q3
    · have := putE_length (D.nk (.tup ks)) a v es0
      simp only [List.length_cons]
      omega
theorem cr_dict (hc : X.calm = true) (hu : RoomC X.A) : CallR X (.type "dict") (fun vs H Q => ∃ x, vs = [x] ∧ K1 (gx X FA) W (fun p S => bi1 .dict S p) x H Q) := by
  intro pins s τ H xs us Q I r h
  obtain ⟨x, rfl, p, θ, S, H₁, m, rp, h⟩ := h
  dsimp only [bi1] at h
  split at h
  · rename_i kvs e
    obtain ⟨ys, e1, e2⟩ := Option.bind_eq_some_iff.mp e
    obtain ⟨a, vs, rfl, h1, h2⟩ := lst_of m rp e1
    obtain ⟨its, rv, pl, hz⟩ := I.list (lst_sq h2)
    rw [Vals.ref1 r]
    obtain ⟨es, us2, g1, g2, g3, g4⟩ := pairs_read I e2 h1 rv
    have hl := rv.length
    have l3 := zip3_length g2
    obtain ⟨es', us', q1, q2, q3, q4, q5⟩ := putAll_rep g1 g2 (kvs0 := []) .nil .nil (by simp)
    let Ts : Nat → Addr := fun j => match its[j]? with | some (.ref T) => T | _ => 0
    have atj : ∀ (j : Nat) (x : NestedKey × Addr × Value), (zip3 es us2)[j]? = some x → its[j]? = some (.ref (Ts j)) ∧ PairAt s.heap (Ts j) (.ref x.2.1) x.2.2 := by
      have zz : ∀ {es : List KE3} {us : List Value}, Paired RelE es us → ∀ (j : Nat) (x : NestedKey × Addr × Value), (zip3 es us)[j]? = some x → ∃ e, es[j]? = some e ∧ us[j]? = some x.2.2 ∧ x.2.1 = e.2.1 := by
        intro es us t
        induction t with
        | nil => intro j x e; simp [zip3] at e
        | @cons a b as bs r t ih =>
          intro j x e
          cases j with
          | zero => simp [zip3] at e; subst e; exact ⟨a, rfl, rfl, rfl⟩
          | succ j =>
            obtain ⟨e', k1, k2, k3⟩ := ih j x (by simpa [zip3] using e)
            exact ⟨e', by simpa using k1, by simpa using k2, k3⟩
      intro j x hx
      obtain ⟨e, k1, k2, k3⟩ := zz g2 j x hx
      obtain ⟨T, k4, k5⟩ := g4 j e _ k1 k2
      have : Ts j = T := by show (match its[j]? with | some (.ref T) => T | _ => 0) = T; rw [k4]
      rw [this, k3]
      exact ⟨k4, k5⟩
    have lps : ((zip3 es us2).map fun x => (Value.ref x.2.1, x.2.2)).length = its.length := by rw [List.length_map, l3, g3]
    have hks := KtR.keys I g1
    have P := PairArg.list (prog := X.prog) (w := X.w) a its.toArray Ts ((zip3 es us2).map fun x => (Value.ref x.2.1, x.2.2))
    have stays := nestedKind_stays (prog := X.prog) (w := X.w)
    refine call_dict_pairsH (knd := nestedKind X.prog X.w) (ps := zip3 es us2) P (I.ok.hd hc) ?_ ⟨pl, by simpa using lps.symm, fun j k v hj => ?_⟩ ⟨by rw [List.length_map], fun i key v e => ?_⟩ (fun h' hk x hx => ?_) (by rw [lps]; omega) fun h' tk hd' hk => ?_
    · show X.A.units + 1 + 1 + 8 < cLine
      have : X.A.units + 100 < cLine := hu
      omega
    · rw [List.getElem?_map] at hj
      obtain ⟨x, x1, x2⟩ := Option.map_eq_some_iff.mp hj
      cases x2
      have := atj j x x1
      exact ⟨by simpa using this.1, this.2⟩
    · have e : ((zip3 es us2).map fun x => (Value.ref x.2.1, x.2.2))[i]? = some (key, v) := e
      rw [List.getElem?_map] at e
      obtain ⟨x, x1, x2⟩ := Option.map_eq_some_iff.mp e
      cases x2
      exact ⟨x.1, x.2.1, x1, rfl⟩
    · obtain ⟨e, he, z1, z2⟩ := zip3_mem g2 x hx
      rw [z1, z2]
      have hne := hks e he
      refine stays.stays (fun b o vs n e' q => hk b o (fun z => ?_) (by simp) e') hne
      subst z
      exact absurd (Heap.lt_size e') (Nat.lt_irrefl _)
    · have hd2 : h'.DictOfH (nestedKind X.prog X.w) s.heap.objs.size (zip3 es' us') := by rw [← q3]; exact hd'
      have big : (s.heap.objs.size == sysModules) = false := beq_eq_false_iff_ne.mpr fun e => by have := I.big; rw [e] at this; exact absurd this (by decide)
      have dk : DictAt X.w s.heap.objs.size es' h' := dict_back (P := X.prog) (by simp at q5; omega) big q2 hd2
      have I2 : Inv X pins τ (upd H s.heap.objs.size (.ext (DictAt X.w s.heap.objs.size es'))) { s with heap := h', toks := tk } := I.laid (t' := tk) (fun b o e => hk b o (by simp) e) (Nat.le_refl _) (dictAt_ok dk)
      have hn := I.hok.fresh (Nat.le_refl s.heap.objs.size)
      exact ⟨.ref s.heap.objs.size, _, I2, rfl, h.newObj m hn ⟨q4, es', upd_same, q1.ext (.new hn)⟩⟩
  · exact h.elim
/-! ### isinstance -/
def tyN : Ty → Option String
  | .int => some "int" | .bool => some "bool" | .str => some "str" | .tuple => some "tuple" | .list => some "list" | .cls _ => none
theorem kit_two : (kitB "bool" "bool" = some true ∧ kitB "bool" "int" = some true ∧ kitB "bool" "str" = some false ∧ kitB "bool" "tuple" = some false ∧ kitB "bool" "list" = some false) ∧
    (kitB "int" "bool" = some false ∧ kitB "int" "int" = some true ∧ kitB "int" "str" = some false ∧ kitB "int" "tuple" = some false ∧ kitB "int" "list" = some false) ∧
    (kitB "str" "bool" = some false ∧ kitB "str" "int" = some false ∧ kitB "str" "str" = some true ∧ kitB "str" "tuple" = some false ∧ kitB "str" "list" = some false) ∧
    (kitB "tuple" "bool" = some false ∧ kitB "tuple" "int" = some false ∧ kitB "tuple" "str" = some false ∧ kitB "tuple" "tuple" = some true ∧ kitB "tuple" "list" = some false) ∧
    (kitB "list" "bool" = some false ∧ kitB "list" "int" = some false ∧ kitB "list" "str" = some false ∧ kitB "list" "tuple" = some false ∧ kitB "list" "list" = some true) ∧
    (kitB "dict" "bool" = some false ∧ kitB "dict" "int" = some false ∧ kitB "dict" "str" = some false ∧ kitB "dict" "tuple" = some false ∧ kitB "dict" "list" = some false) ∧
    (kitB "NoneType" "bool" = some false ∧ kitB "NoneType" "int" = some false ∧ kitB "NoneType" "str" = some false ∧ kitB "NoneType" "tuple" = some false ∧ kitB "NoneType" "list" = some false) := by decide +kernel
def kdN : Kd → String
  | .non => "NoneType" | .bl => "bool" | .int => "int" | .str => "str" | .tup => "tuple" | .lst => "list" | .dct => "dict"
theorem kdTy_kit {k : Kd} {t : Ty} {n : String} {b : Bool} (ht : tyN t = some n) (h : kdTy k t = some b) : kitB (kdN k) n = some b := by
  obtain ⟨⟨a1, a2, a3, a4, a5⟩, ⟨b1, b2, b3, b4, b5⟩, ⟨c1, c2, c3, c4, c5⟩, ⟨d1, d2, d3, d4, d5⟩, ⟨e1, e2, e3, e4, e5⟩, ⟨f1, f2, f3, f4, f5⟩, ⟨g1, g2, g3, g4, g5⟩⟩ := kit_two
  cases t <;> simp only [tyN] at ht <;> first | (cases ht; done) | skip
  all_goals cases ht
  all_goals cases k <;> simp only [kdTy, Option.some.injEq] at h <;> subst h <;> simp only [kdN] <;> assumption
theorem kit_rep {H₁ : Hp} {p : Pv} {x : V} {u : Value} {k : Kd} (I : Inv X pins τ H s) (m : Sim (gx X FA) θ S H) (rx : RelV x u) (rp : RepP (gx X FA) H₁ θ H p x) (e : p.kd S = some k) :
    ∃ P : Heap → Prop, PySem.W.KitX X.K u (.type (kdN k)) P ∧ P s.heap ∧ u ≠ .builtin "__main__.__loader__#opaque" := by
  have lst : ∀ {a : Addr} {vs : List V}, SqL X.K H a vs → x = .ref a → ∃ P : Heap → Prop, PySem.W.KitX X.K u (.type "list") P ∧ P s.heap ∧ u ≠ .builtin "__main__.__loader__#opaque" := fun {a vs} h e => by
    subst e
    cases (show u = Value.ref a from rx)
    obtain ⟨its, _, ⟨o, n, h1, h2, _⟩, _⟩ := I.list h
    exact ⟨_, PySem.W.kitx_list, ⟨o, h1, h2⟩, fun z => nomatch z⟩
  cases p with
  | fresh xs =>
    cases e
    obtain ⟨a, vs, rfl, h2, _⟩ := rp
    exact lst (.of h2) rfl
  | rng lo hi => cases e
  | its xs hs => cases e
  | val d =>
    cases d with
    | non => cases e; obtain rfl := Rep.non_inv (G := gx X FA) (θ := θ) (H := H) rp; cases (show u = Value.none from rx); exact ⟨_, PySem.W.kitx_none, True.intro, fun z => nomatch z⟩
    | bl b => cases e; obtain rfl := RepP.b rp; cases (show u = Value.bool b from rx); exact ⟨_, PySem.W.kitx_bool, True.intro, fun z => nomatch z⟩
    | int i => cases e; obtain rfl := RepP.i rp; obtain ⟨t, q⟩ := (show ∃ t, u = Value.int i t from rx); cases q; exact ⟨_, PySem.W.kitx_int, True.intro, fun z => nomatch z⟩
    | str z => cases e; obtain rfl := RepP.s rp; obtain ⟨t, q⟩ := (show ∃ t, u = Value.str (toS z) t from rx); cases q; exact ⟨_, PySem.W.kitx_str, True.intro, fun z => nomatch z⟩
    | tup xs =>
      cases e
      obtain ⟨a, vs, rfl, h1, h2⟩ := RepP.t rp
      cases (show u = Value.ref a from rx)
      obtain ⟨its, _, ⟨o, h1, h2, _⟩, _⟩ := I.tuple h1
      exact ⟨_, PySem.W.kitx_tuple, ⟨o, h1, h2⟩, fun z => nomatch z⟩
    | ref l =>
      simp only [Pv.kd] at e
      obtain ⟨a, h1, rfl⟩ := RepP.r rp
      split at e
      · rename_i xs q
        cases e
        obtain ⟨vs, h2, h3⟩ := m.ob l a _ h1 q
        exact lst (.of h2) rfl
      · rename_i lk kvs q
        cases e
        obtain ⟨hn, es, h2, h3⟩ := m.ob l a _ h1 q
        cases (show u = Value.ref a from rx)
        obtain ⟨_, _, o, _, _, _, e1, e2, _⟩ : DictAt X.w a es s.heap := by
          rcases h2.there with ha | ⟨o, ha⟩
          · exact (I.hok a _ ha).1
          · exact (I.hok a _ ha).2.1
        exact ⟨_, PySem.W.kitx_dict, ⟨o, e1, e2.1⟩, fun z => nomatch z⟩
      · cases e
    | fn k => cases e
    | rol xs => cases e
theorem cr_isi {t : Ty} {n : String} (ht : tyN t = some n) : CallR X (.builtin "isinstance") (fun vs H Q => ∃ x, vs = [x, .ty n] ∧ K1 (gx X FA) W (fun p S => blR S (isiP S p t)) x H Q) := by
  intro pins s τ H xs us Q I r h
  obtain ⟨x, rfl, p, θ, S, H₁, m, rp, h⟩ := h
  obtain ⟨u1, u2, rfl, r1, r2⟩ := vals2 r
  cases (show u2 = Value.type n from r2)
  cases e : isiP S p t with
  | none => simp only [e] at h; exact h.elim
  | some b =>
    simp only [e] at h
    obtain ⟨k, k1, k2⟩ := Option.bind_eq_some_iff.mp e
    obtain ⟨P, Z, q, hx⟩ := kit_rep I m r1 rp k1
    exact PySem.W.kia_one Z I.kIn q (kit_ty (kdTy_kit ht k2)) hx fun tk => ⟨.bl b, H, I.tok tk, rfl, h.bl m⟩
end
end Nog

set_option Elab.async false
set_option linter.all false
set_option maxRecDepth 100000
set_option maxHeartbeats 1000000
/-! what is walked -/
namespace Nog
open PySem L2 PyProof.Rows

/-! ### a tuple or a list -/
/-- b: a tuple (else a list) -/
def SqB (K : PySem.W.Frag) (b : Bool) (H : Hp) (a : Addr) (vs : List V) : Prop := match b with
  | true => SqT K H a vs
  | false => SqL K H a vs
def ItB (h : Heap) (b : Bool) (it a : Addr) (i : Nat) : Prop := match b with
  | true => h.IsTupleIter it a i
  | false => h.IsListIter it a i
def HasB (h : Heap) (b : Bool) (a : Addr) (its : Array Value) : Prop := match b with
  | true => h.IsTuple a its
  | false => h.IsList a its
def itObj (b : Bool) (a : Addr) : Obj := match b with
  | true => { cls := .type "tuple_iterator", data := .fields #[.ref a, .int 0 0] }
  | false => { cls := .type "list_iterator", data := .fields #[.ref a, .int 0 0] }
theorem ItB.at {h h' : Heap} {b : Bool} {it a : Addr} {i : Nat} (x : ItB h b it a i) (e : ∀ o, h.get? it = some o → h'.get? it = some o) : ItB h' b it a i := by
  cases b with
  | true => obtain ⟨o, ho, r⟩ := (show h.IsTupleIter it a i from x); exact ⟨o, e _ ho, r⟩
  | false => exact (show h.IsListIter it a i from x).at e
theorem ItB.there {h : Heap} {b : Bool} {it a : Addr} {i : Nat} (x : ItB h b it a i) : ∃ o, h.get? it = some o ∧ ∀ v, o.data ≠ .cell v := by
  cases b with
  | true => obtain ⟨o, ho, c, d⟩ := (show h.IsTupleIter it a i from x); exact ⟨o, ho, fun v z => by rw [d] at z; cases z⟩
  | false => obtain ⟨o, ho, c, d⟩ := (show h.IsListIter it a i from x); exact ⟨o, ho, fun v z => by rw [d] at z; cases z⟩
theorem ItB.start {h : Heap} {b : Bool} {it a : Addr} (e : h.get? it = some (itObj b a)) : ItB h b it a 0 := by
  cases b with
  | true => exact ⟨_, e, rfl, rfl⟩
  | false => exact ⟨_, e, rfl, rfl⟩
theorem HasB.at {h h' : Heap} {b : Bool} {a : Addr} {its : Array Value} (x : HasB h b a its) (e : ∀ o, h.get? a = some o → h'.get? a = some o) : HasB h' b a its := by
  cases b with
  | true => exact (show h.IsTuple a its from x).at e
  | false => exact (show h.IsList a its from x).at e
theorem HasB.lt {h : Heap} {b : Bool} {a : Addr} {its : Array Value} (x : HasB h b a its) : a < h.objs.size := by
  cases b with
  | true => obtain ⟨o, ho, _⟩ := (show h.IsTuple a its from x); exact Heap.lt_size ho
  | false => obtain ⟨o, ho, _⟩ := (show h.IsList a its from x); exact Heap.lt_size ho
theorem HasB.cls {h : Heap} {b : Bool} {a : Addr} {its : Array Value} (x : HasB h b a its) : ∃ o, h.get? a = some o ∧ (o.cls = .type "tuple" ∨ o.cls = .type "list") := by
  cases b with
  | true => obtain ⟨o, ho, c, _⟩ := (show h.IsTuple a its from x); exact ⟨o, ho, .inl c⟩
  | false => obtain ⟨o, ho, c, _⟩ := (show h.IsList a its from x); exact ⟨o, ho, .inr c⟩
theorem ItB.cls {h : Heap} {b : Bool} {it a : Addr} {i : Nat} (x : ItB h b it a i) : ∃ o, h.get? it = some o ∧ (o.cls = .type "tuple_iterator" ∨ o.cls = .type "list_iterator") := by
  cases b with
  | true => obtain ⟨o, ho, c, _⟩ := (show h.IsTupleIter it a i from x); exact ⟨o, ho, .inl c⟩
  | false => obtain ⟨o, ho, c, _⟩ := (show h.IsListIter it a i from x); exact ⟨o, ho, .inr c⟩
theorem HasB.neOf {h : Heap} {b : Bool} {a c : Addr} {its : Array Value} {o : Obj} (x : HasB h b a its) (e : h.get? c = some o) (h1 : o.cls ≠ .type "tuple") (h2 : o.cls ≠ .type "list") : a ≠ c := by
  rintro rfl
  obtain ⟨o', ho, c⟩ := x.cls
  rw [e] at ho
  cases ho
  exact c.elim h1 h2
theorem HasB.neIt {h : Heap} {b b' : Bool} {a c it : Addr} {i : Nat} {its : Array Value} (x : HasB h b a its) (y : ItB h b' it c i) : a ≠ it := by
  obtain ⟨o, ho, c⟩ := y.cls
  refine x.neOf ho ?_ ?_
  · rcases c with c | c <;> rw [c] <;> simp
  · rcases c with c | c <;> rw [c] <;> simp
theorem drawsB {P : Program} {w : World} {A : Around} (hh : A.handled = none) (b : Bool) (it a : Addr) (hne : a ≠ it) (its : Array Value) :
    Draws P w A it [it, a] its.size (fun i v => its[i]? = some v) (fun i h => ItB h b it a i ∧ HasB h b a its) := by
  cases b with
  | true => exact Draws.tuple hh it a hne its
  | false => exact Draws.list hh it a hne its
theorem beginsB (b : Bool) (a : Addr) (its : Array Value) : Begins (.ref a) (itObj b a) fun h => HasB h b a its := by
  cases b with
  | true => exact begins_tuple a its
  | false => exact begins_list a its
section
variable {X : Cx} {pins : List (Addr × Obj)} {τ : L2.St} {s : Shared} {H : Hp}
theorem hasB (I : Inv X pins τ H s) {b : Bool} {a : Addr} {vs : List V} (h : SqB X.K b H a vs) : ∃ its : List Value, Vals vs its ∧ HasB s.heap b a its.toArray ∧ vs.length ≤ sizeLine := by
  cases b with
  | true => obtain ⟨its, r, p, z⟩ := I.tuple h; exact ⟨its, r, p, z⟩
  | false => obtain ⟨its, r, p, z⟩ := I.list h; exact ⟨its, r, p.isList, z⟩
theorem sqB_inj (I : Inv X pins τ H s) {b : Bool} {a : Addr} {vs us : List V} (h : SqB X.K b H a vs) (h' : SqB X.K b H a us) : vs = us := by
  cases b with
  | true => exact I.tuple_inj h h'
  | false => exact I.list_inj h h'
end

/-! ### enumerate -/
def ItEn (K : PySem.W.Frag) (b : Bool) (a : Addr) : It :=
  ⟨fun i H => ∃ (xs : List V) (x : V), SqB K b H a xs ∧ xs[i]? = some x, fun i H v H' => ∃ T x, v = .ref T ∧ H T = none ∧ H' = upd H T (.tup [.int (i : Nat), x]) ∧ ∀ xs, SqB K b H a xs → xs[i]? = some x, fun i H => ∃ xs : List V, SqB K b H a xs ∧ xs.length = i⟩
theorem turn_en {P : Program} {w : World} {K : PySem.W.Frag} {elts : List Expr} {kk : Nat} {tpos : Pos} (b : Bool) (a e it : Addr) :
    Turn P w K (.Tuple elts kk tpos) (ItEn K b a) [e, it] e (fun i h => (∃ old, IsEnum h e it ((i : Nat) : Int) old) ∧ ItB h b it a i ∧ e ≠ it) where
  mem := by simp
  obj := fun i h st c hc => by
    obtain ⟨⟨old, he⟩, hi, _⟩ := st
    have e' : c = e ∨ c = it := by simpa using hc
    rcases e' with z | z
    · rw [z]; exact ⟨_, he, fun v q => nomatch q⟩
    · rw [z]; exact hi.there
  keep := fun i h h' st k => let ⟨⟨old, he⟩, hi, hne⟩ := st; ⟨⟨old, k e (by simp) _ he⟩, hi.at fun o q => k it (by simp) o q, hne⟩
  item := by
    intro X hP hw hK hc i pins s σ H E I hf st hg
    subst hP hw hK
    obtain ⟨⟨old, he⟩, hit, hne⟩ := st
    obtain ⟨xs, x, hq, hx⟩ := hg
    obtain ⟨its, rv, p, hz⟩ := hasB I hq
    obtain ⟨u, hu, ru⟩ := rv.get hx
    have hel : e < s.heap.objs.size := Heap.lt_size he
    have hil : it < s.heap.objs.size := by obtain ⟨o, q, _⟩ := hit.there; exact Heap.lt_size q
    have hal := p.lt
    obtain ⟨f0, f1, f2, f3, f4, f5⟩ := hf it (by simp)
    obtain ⟨g0, g1, g2, g3, g4, g5⟩ := hf e (by simp)
    -- the container is no object of the iterator's
    have hai := p.neIt hit
    have hae : a ≠ e := p.neOf he (by simp) (by simp)
    have hlt : i < its.toArray.size := by rw [List.size_toArray]; exact (List.getElem?_eq_some_iff.mp hu).1
    refine wpAny_pyNext_enum_itemC (drawsB (A := X.A.in1) (I.ok.hd hc) b it a hai its.toArray) he ⟨hit, p⟩ hlt hne (by simp; exact ⟨hne, Ne.symm hae⟩) fun x' h' tk hx' ho hst' hT hsz hk => ?_
    have ex : x' = u := by
      have : its.toArray[i]? = some u := by simpa using hu
      rw [hx'] at this
      exact Option.some.inj this
    subst ex
    refine ⟨_, rfl, wpAny_letOwnedTupleGo_enum (s := { s with heap := h', toks := tk + 1 }) ho fun h'' he' sb => ?_⟩
    have hT2 : h''.get? s.heap.objs.size = some { cls := .type "tuple", data := .seq #[.int (i : Nat) tk, x'] } := (sb.2 _ (Nat.ne_of_gt hel)).trans hT
    have new : ObjOk X.prog X.w (upd H s.heap.objs.size (.tup [.int (i : Nat), x])) h'' s.heap.objs.size (.tup [.int (i : Nat), x]) :=
      ⟨by show 2 ≤ sizeLine; decide, [.int (i : Nat) tk, x'], .cons ⟨_, rfl⟩ (.cons ru .nil), ⟨_, hT2, rfl, _, rfl⟩⟩
    have I1 : Inv X pins σ (upd H s.heap.objs.size (.tup [.int (i : Nat), x])) { s with heap := h'', toks := tk + 1 } :=
      I.turnedNew (ch := [e, it]) (fun b ob hb q => (sb.2 b (fun z => hb (by simp [z]))).trans (hk b ob (fun z => hb (by simp [z])) (fun z => hb (by simp [z])) q)) hf (Nat.le_refl _) new
    refine ⟨.ref s.heap.objs.size, _, I1, rfl, ⟨_, x, rfl, I.hok.fresh (Nat.le_refl _), rfl, fun ys hy => by rw [sqB_inj I hy hq]; exact hx⟩, ⟨⟨x', ?_⟩, hst'.1.at fun o q => (sb.2 it (Ne.symm hne)).trans q, hne⟩, fun b hb => ?_⟩
    · have e1 : ((i + 1 : Nat) : Int) = (i : Int) + 1 := by omega
      rw [e1]; exact he'
    · have hb' : b < s.heap.objs.size := by
        have e' : b = e ∨ b = it := by simpa using hb
        rcases e' with z | z
        · rw [z]; exact hel
        · rw [z]; exact hil
      rw [upd_ne (Nat.ne_of_lt hb')]
      exact (hf b hb).1
  done := by
    intro X hP hw hK hc i pins s σ H E I hf st hg
    subst hP hw hK
    obtain ⟨⟨old, he⟩, hit, hne⟩ := st
    obtain ⟨xs, hq, hx⟩ := hg
    obtain ⟨its, rv, p, hz⟩ := hasB I hq
    obtain ⟨f0, f1, f2, f3, f4, f5⟩ := hf it (by simp)
    have hl := rv.length
    have hai := p.neIt hit
    have hn : its.toArray.size = i := by rw [List.size_toArray]; omega
    refine wpAny_pyNext_enum_endD (drawsB (A := X.A.in1) (I.ok.hd hc) b it a hai its.toArray) he (by rw [hn]; exact ⟨hit, p⟩) fun h' eb => ⟨rfl, I.turned (t' := s.toks) (fun b o hb q => eb b o hb q) f0 f1 f3 f4 f5⟩
  self := fun A i s Q E st h => let ⟨⟨_, he⟩, _⟩ := st; wpAny_pyIter_enum he h
set_option maxHeartbeats 1000000 in
theorem meets_enumerate_newB1 {v : Value} {o : Obj} {H : Heap → Prop} (B : Begins v o H) :
    Meets (Builtin.«enumerate.__new__» ⟨[.type "enumerate", v], []⟩) (fun _ R s => H s.heap ∧
      R (.ok (.ret (.ref (s.heap.push o).objs.size))) { s with heap := (s.heap.push o).push { cls := .type "enumerate", data := .fields #[.none, .bool false, .ref s.heap.objs.size, rawInt 0, .none, .none] } }) :=
  .of_wp fun prog w A R s h => by
    obtain ⟨hp, g, d, tk, os⟩ := s; obtain ⟨h1, h⟩ := h
    have hsub := sub_enumerate
    have q1 : ∀ {A' : Around} {E : Value → Shared → Prop} {Q : Value → Shared → Prop}, Q (.ref hp.objs.size) ⟨hp.push o, g, d, tk, os⟩ → wpAny (model prog w) A' (pyIter v) Q E ⟨hp, g, d, tk, os⟩ :=
      fun q => B.iter prog w _ _ ⟨hp, g, d, tk, os⟩ _ h1 q
    wp_walk using q1
    refine wpAny_stack_any fun st => wpAny_pure ?_
    split
    · rename_i c _ _ _ _ _
      cases (c == Value.type "enumerate")
      · wp_walk using q1
        exact ⟨_, rfl, h⟩
      · wp_walk using q1
        exact ⟨_, rfl, h⟩
    · wp_walk using q1
      exact ⟨_, rfl, h⟩
theorem enum_begins1 {prog : Program} {w : World} {A : Around} {E : Value → Shared → Prop} {s : Shared} {v : Value} {o : Obj} {H : Heap → Prop} {Q : Value → Shared → Prop} (B : Begins v o H) (h1 : H s.heap)
    (h : ∀ h', IsEnum h' (s.heap.objs.size + 1) s.heap.objs.size 0 .none → h'.get? s.heap.objs.size = some o → h'.objs.size = s.heap.objs.size + 2 →
      (∀ b o, s.heap.get? b = some o → h'.get? b = some o) → Q (.ref (s.heap.objs.size + 1)) { s with heap := h' }) :
    wpAny (model prog w) A (call (.type "enumerate") [v]) Q E s := by
  refine callType_new F.called_enumerate (by decide) (F.typeCall_enumerate_1 _) (F.newCall_enumerate_1 _) (fun obj => F.args_object_init_2 obj _) F.entry_enumerate_new
    (meets_enumerate_newB1 B) ⟨h1, ?_⟩
  have hz : (s.heap.push o).objs.size = s.heap.objs.size + 1 := Heap.size_push ..
  show _ ∧ _
  rw [hz]
  have he : IsEnum ((s.heap.push o).push { cls := .type "enumerate", data := .fields #[.none, .bool false, .ref s.heap.objs.size, rawInt 0, .none, .none] }) (s.heap.objs.size + 1) s.heap.objs.size 0 .none := by
    have := Heap.get?_push_size (s.heap.push o) (o := { cls := .type "enumerate", data := .fields #[.none, .bool false, .ref s.heap.objs.size, rawInt 0, .none, .none] }) rfl
    rw [hz] at this; exact this
  refine ⟨⟨_, he, rfl⟩, h _ he (Heap.get?_push_of_some _ (Heap.get?_push_size _ B.free)) (by rw [Heap.size_push, hz]) fun b o x => Heap.get?_push_of_some _ (Heap.get?_push_of_some _ x)⟩
def iEn (K : PySem.W.Frag) (ta : TE) : TI := fun σ H R => ta σ H fun v H1 => ∃ b a xs, v = .ref a ∧ SqB K b H1 a xs ∧ (xs.length ≤ sizeLine → R (ItEn K b a) H1)
theorem pi_en {X : Cx} {e : Expr} {ta : TE} {p pos tpos : Pos} {elts : List Expr} {kk : Nat} (hg : Gl X "enumerate") (hm : X.mg "enumerate" = none) (ha : PE X e ta) (hs : starEach [e] X.env = [(false, eval e X.env)]) :
    PI X (.Tuple elts kk tpos) (.Call (.Name "enumerate" p) [e] [] pos) (iEn X.K ta) := by
  refine ⟨fun pins s σ H R I h => ?_⟩
  refine Call_ (ld_blt I hg hm boot_enumerate (PyProof.Rows.callWith_type1 (thn ((pa_cons ha pa_nil hs).run pos pins s σ H (fun vs H1 => ∃ b a xs, vs = [.ref a] ∧ SqB X.K b H1 a xs ∧ (xs.length ≤ sizeLine → R (ItEn X.K b a) H1)) I ?_) fun us s1 ⟨vs, H1, I1, r1, q1⟩ => ?_) hs rfl))
  · have mono : ∀ {Q Q' : VK}, (∀ v H, Q v H → Q' v H) → Q = Q' → True := fun _ _ => trivial
    show ta σ H fun x H1 => ∃ b a xs, [x] = [V.ref a] ∧ SqB X.K b H1 a xs ∧ (xs.length ≤ sizeLine → R (ItEn X.K b a) H1)
    have : (fun x H1 => ∃ b a xs, [x] = [V.ref a] ∧ SqB X.K b H1 a xs ∧ (xs.length ≤ sizeLine → R (ItEn X.K b a) H1)) = fun x H1 => ∃ b a xs, x = V.ref a ∧ SqB X.K b H1 a xs ∧ (xs.length ≤ sizeLine → R (ItEn X.K b a) H1) := by
      funext x H1
      simp
    rw [this]
    exact h
  · obtain ⟨b, a, xs, ex, hq, q⟩ := q1
    subst ex
    cases r1 with
    | cons r rr =>
      cases rr
      cases r
      obtain ⟨its, rv, p', hz⟩ := hasB I1 hq
      refine enum_begins1 (beginsB b a its.toArray) p' fun h' he hit hsz hk => wpAny_pyIter_enum he ?_
      have I2 : Inv X pins σ H1 { s1 with heap := h' } := I1.kept (t' := s1.toks) hk
      refine ⟨s1.heap.objs.size + 1, [s1.heap.objs.size + 1, s1.heap.objs.size], _, _, H1, rfl, I2, turn_en b a (s1.heap.objs.size + 1) s1.heap.objs.size, ⟨⟨.none, he⟩, .start hit, Nat.succ_ne_self _⟩, fun b hb => ?_, q hz⟩
      have e' : b = s1.heap.objs.size + 1 ∨ b = s1.heap.objs.size := by simpa using hb
      have hle : s1.heap.objs.size ≤ b := by
        rcases e' with z | z
        · rw [z]; exact Nat.le_add_right _ _
        · rw [z]; exact Nat.le_refl _
      exact I1.fpOk hle (I1.hok.fresh hle)
end Nog

set_option Elab.async false
set_option linter.all false
set_option maxRecDepth 100000
set_option maxHeartbeats 1000000
/-! sources of walks -/
namespace Nog
open PySem L2 PyProof.Rows

/-! ### a locked dict -/
def ItX (w : World) (d : Addr) (o : Obj) (es : List KE3) : It :=
  ⟨fun i H => H d = some (.frz o (.ext (DictAt w d es))) ∧ i < es.length, fun i H x H' => H' = H ∧ ∃ e, es[i]? = some e ∧ x = .ref e.2.1, fun i H => H d = some (.frz o (.ext (DictAt w d es))) ∧ es.length ≤ i⟩
theorem zip_at : ∀ {es : List KE3} {us : List Value} {ds : List DictEntry} {w : World}, Paired RelE es us → ds = ((es.zip us).map fun q => (⟨NestedKey.hash w q.1.1, .ref q.1.2.1, q.2⟩ : DictEntry)) →
    ds.length = es.length ∧ ∀ (i : Nat) (e : KE3), es[i]? = some e → ∃ en, ds[i]? = some en ∧ en.key = .ref e.2.1 := by
  intro es us ds w t
  rintro rfl
  induction t with
  | nil => exact ⟨rfl, fun i e h => by simp at h⟩
  | @cons a b as bs r t ih =>
    refine ⟨by simpa using ih.1, fun i e h => ?_⟩
    cases i with
    | zero => simp at h; subst h; exact ⟨_, rfl, rfl⟩
    | succ i =>
      obtain ⟨en, h1, h2⟩ := ih.2 i e (by simpa using h)
      exact ⟨en, by simpa using h1, h2⟩
section
variable {X : Cx} {pins : List (Addr × Obj)} {τ : L2.St} {s : Shared} {H : Hp}
theorem frzX (I : Inv X pins τ H s) {d : Addr} {o : Obj} {es : List KE3} (h : H d = some (.frz o (.ext (DictAt X.w d es)))) :
    (d == sysModules) = false ∧ s.heap.get? d = some o ∧ o.ExactDict ∧ es.length ≤ sizeLine ∧ ∃ (ents : Array DictEntry) (ep : Nat), o.data = .dict ents ep ∧ ents.size = es.length ∧ ∀ (i : Nat) (e : KE3), es[i]? = some e → ∃ en, ents[i]? = some en ∧ en.key = .ref e.2.1 := by
  obtain ⟨hd, ⟨hz, hs, o', ds, ep, us, h1, h2, h3, h4, h5⟩, _⟩ := I.hok d _ h
  rw [hd] at h1
  cases h1
  obtain ⟨q1, q2⟩ := zip_at h4 h5
  refine ⟨hs, hd, h2, hz, ds, ep, h3, by rw [← q1, Array.length_toList], fun i e he => ?_⟩
  obtain ⟨en, e1, e2⟩ := q2 i e he
  exact ⟨en, by rw [← Array.getElem?_toList]; exact e1, e2⟩
end
theorem turn_x {P : Program} {w : World} {K : PySem.W.Frag} {tg : Expr} {d : Addr} {o : Obj} {es : List KE3} {ents : Array DictEntry} {ep : Nat} (it : Addr) (hod : o.data = .dict ents ep) :
    Turn P w K tg (ItX w d o es) [it] it (fun i h => h.IsKeyIter it d i es.length ep) where
  mem := by simp
  obj := fun i h st b hb => by
    have e : b = it := by simpa using hb
    subst e
    obtain ⟨oi, e, c, dd⟩ := st
    exact ⟨oi, e, fun v z => by rw [dd] at z; cases z⟩
  keep := fun i h h' st k => st.at fun oi e => k it (by simp) oi e
  item := by
    intro X hP hw hK hc i pins s σ H E I hf st hg
    subst hP hw hK
    obtain ⟨hd, hi⟩ := hg
    obtain ⟨f0, f1, f2, f3, f4, f5⟩ := hf it (by simp)
    obtain ⟨hs, hgd, hx, hz, es', ep', hdt, hsz, ent⟩ := frzX I hd
    obtain ⟨rfl, rfl⟩ := dict_ep hod hdt
    obtain ⟨en, hen, hkey⟩ := ent i es[i] (List.getElem?_eq_getElem hi)
    refine next_key_item st hgd hdt hsz hen fun h' st' sb => ?_
    have I1 : Inv X pins σ H { s with heap := h' } := I.turned (t' := s.toks) (fun b ob hb e => (sb.2 b hb).trans e) f0 f1 f3 f4 f5
    obtain ⟨oi, e, c, dd⟩ := id st'
    exact ⟨en.key, rfl, go_of (s := { s with heap := h' }) e c dd (by decide) ⟨.ref es[i].2.1, H, I1, hkey, ⟨rfl, es[i], List.getElem?_eq_getElem hi, rfl⟩, st', fun b hb => (hf b hb).1⟩⟩
  done := by
    intro X hP hw hK hc i pins s σ H E I hf st hg
    subst hP hw hK
    obtain ⟨hd, hi⟩ := hg
    obtain ⟨f0, f1, f2, f3, f4, f5⟩ := hf it (by simp)
    obtain ⟨hs, hgd, hx, hz, es', ep', hdt, hsz, ent⟩ := frzX I hd
    obtain ⟨rfl, rfl⟩ := dict_ep hod hdt
    exact next_key_end (I.ok.hd hc) st hgd hdt hsz hi fun h' eb => ⟨rfl, I.turned (t' := s.toks) (fun b ob hb e => eb b ob hb e) f0 f1 f3 f4 f5⟩
  self := fun A i s Q E st h => by
    refine wpAny_pyIter_slot st.typeIs F.slot_dict_keyiterator_iter (wpAny_call_entry F.slot_dict_keyiterator_iter st.typeIs F.entry_dict_keyiterator_iter ?_ (F.args_dict_keyiterator_iter_1 _))
    show wpAny _ _ (ret (.ref it)) _ _ s
    exact wpAny_pure ⟨_, rfl, "dict_keyiterator", _, st.typeIs, F.slot_dict_keyiterator_next.lookup, h⟩

/-! ### any of these, by the value -/
/-- the three ways; a dict that is not locked is locked here -/
def iTri (X : Cx) (te : TE) : TI := fun σ H R => te σ H fun x H1 =>
  (∃ b a vs, x = .ref a ∧ SqB X.K b H1 a vs ∧ (vs.length ≤ sizeLine → R (if b then Itt X.K a else Itl X.K a) H1)) ∨
  (∃ d o es, x = .ref d ∧ H1 d = some (.frz o (.ext (DictAt X.w d es))) ∧ (es.length ≤ sizeLine → R (ItX X.w d o es) H1)) ∨
  (∃ d es, x = .ref d ∧ H1 d = some (.ext (DictAt X.w d es)) ∧ ∀ o, es.length ≤ sizeLine → (∀ o' u', X.H_0 d ≠ some (.frz o' u')) → R (ItX X.w d o es) (upd H1 d (.frz o (.ext (DictAt X.w d es)))))
theorem pi_tri {X : Cx} {tg e : Expr} {te : TE} (he : PE X e te) : PI X tg e (iTri X te) := by
  refine ⟨fun pins s σ H R I h => ?_⟩
  refine thn (he.run pins s σ H _ I h) fun u s1 ⟨x, H1, I1, rx, q⟩ => ?_
  have dict : ∀ {d : Addr} {o : Obj} {es : List KE3} {H2 : Hp}, Inv X pins σ H2 s1 → H2 d = some (.frz o (.ext (DictAt X.w d es))) → (es.length ≤ sizeLine → R (ItX X.w d o es) H2) → wpAny (model X.prog X.w) X.A (pyIter (.ref d)) (PIE X pins σ tg R) X.xe s1 := by
    intro d o es H2 I2 hd q
    obtain ⟨hs, hgd, hx, hz, ents, ep, hdt, hsz, ent⟩ := frzX I2 hd
    refine iter_keys hs hgd hx hdt (pi_one (tk := s1.toks) I2 _ (turn_x _ hdt) ⟨_, Heap.get?_push_size _ rfl, rfl, ?_⟩ (q hz))
    rw [hsz] <;> rfl
  rcases q with ⟨b, a, vs, rfl, hq, q⟩ | ⟨d, o, es, rfl, hd, q⟩ | ⟨d, es, rfl, hd, q⟩
  · cases rx
    obtain ⟨its, rv, p, hz⟩ := hasB I1 hq
    cases b with
    | true => exact wpAny_pyIter_tuple (show s1.heap.IsTuple a its.toArray from p) (pi_one (tk := s1.toks) I1 _ (turn_tuple a _) ⟨_, Heap.get?_push_size _ rfl, rfl, rfl⟩ (q hz))
    | false => exact wpAny_pyIter_list (show s1.heap.IsList a its.toArray from p) (pi_one (tk := s1.toks) I1 _ (turn_list a _) ⟨_, Heap.get?_push_size _ rfl, rfl, rfl⟩ (q hz))
  · cases rx
    exact dict I1 hd q
  · cases rx
    have mu : Mut (some (HO.ext (DictAt X.w d es))) := trivial
    obtain ⟨od, I2⟩ := I1.lock hd mu
    exact dict I2 upd_same fun z => q od z (I1.nofrz hd mu)

/-! ### unlocking behind a statement, an expression -/
/-- as it is, or with the lock off -/
def UQ (X : Cx) (Q : Hp → Prop) (H : Hp) : Prop := Q H ∨ ∃ d o u, H d = some (.frz o u) ∧ (∀ o' u', X.H_0 d ≠ some (.frz o' u')) ∧ Q (upd H d u)
theorem UQ.inv {X : Cx} {pins : List (Addr × Obj)} {τ : L2.St} {s : Shared} {H : Hp} {Q : Hp → Prop} (I : Inv X pins τ H s) (h : UQ X Q H) : ∃ H', Inv X pins τ H' s ∧ Q H' := by
  rcases h with h | ⟨d, o, u, h1, h2, h3⟩
  · exact ⟨H, I, h⟩
  · exact ⟨_, I.unlock h1 h2, h3⟩
section
variable {X : Cx}
theorem ps_unl {st : Stmt} {t : TS} (h : PS X st t) : PS X st (fun D σ H => t ⟨fun σ' => UQ X (D.nx σ'), fun v => UQ X (D.rt v), fun σ' => UQ X (D.bk σ'), fun σ' => UQ X (D.ct σ')⟩ σ H) := by
  refine ⟨fun pins s σ H D I hw => thn (h.run pins s σ H _ I hw) fun f s1 q => ?_⟩
  cases f with
  | next => obtain ⟨σ', H', I2, q⟩ := q; obtain ⟨H2, I3, q⟩ := q.inv I2; exact ⟨σ', H2, I3, q⟩
  | brk => obtain ⟨σ', H', I2, q⟩ := q; obtain ⟨H2, I3, q⟩ := q.inv I2; exact ⟨σ', H2, I3, q⟩
  | cont => obtain ⟨σ', H', I2, q⟩ := q; obtain ⟨H2, I3, q⟩ := q.inv I2; exact ⟨σ', H2, I3, q⟩
  | ret v => obtain ⟨x, σ', H', I2, r, q⟩ := q; obtain ⟨H2, I3, q⟩ := q.inv I2; exact ⟨x, σ', H2, I3, r, q⟩
theorem pe_unl {e : Expr} {t : TE} (h : PE X e t) : PE X e (fun σ H Q => t σ H fun v => UQ X (Q v)) := by
  refine ⟨fun pins s σ H Q I hw => thn (h.run pins s σ H _ I hw) fun v s1 ⟨x, H1, I1, r, q⟩ => ?_⟩
  obtain ⟨H2, I3, q⟩ := q.inv I1
  exact ⟨x, H2, I3, r, q⟩
end

/-! ### what the evaluator walks -/
/-- what a walk leans on; H₀: ahead of the source's evaluation -/
structure ExtN (G : Gx) (H₀ : Hp) (θ : List Addr) (H : Hp) (θ' : List Addr) (H' : Hp) : Prop extends Ext0 G θ H θ' H' where
  fr : ∀ b o, H₀ b = none → H b = some o → b ∉ θ → H' b = some o
  nw : ∀ b, b ∈ θ' → b ∈ θ ∨ H b = none
  up : ∀ b, H' b = none → H b = none
  fx : ∀ b o u, H b = some (.frz o u) → H' b = some (.frz o u)
theorem Ext.n {G : Gx} {H₀ : Hp} {θ θ' : List Addr} {H H' : Hp} (e : Ext G θ H θ' H') : ExtN G H₀ θ H θ' H' := ⟨e.toExt0, fun b o _ h n => e.fr b o h n, e.nw, e.up, e.fx⟩
structure Srcs (G : Gx) (H₀ : Hp) (θ₁ : List Addr) (H₁ : Hp) (J : It) (ds : List D) (hs : List (Nat × O)) : Prop where
  len : ds.length ≤ sizeLine
  go : ∀ i θ S H, i < ds.length → ExtN G H₀ θ₁ H₁ θ H → Sim G θ S H → heldOk hs S = true → J.go i H
  stop : ∀ θ S H, ExtN G H₀ θ₁ H₁ θ H → Sim G θ S H → heldOk hs S = true → J.stop ds.length H
  yld : ∀ i θ S H x H', i < ds.length → ExtN G H₀ θ₁ H₁ θ H → Sim G θ S H → heldOk hs S = true → J.yld i H x H' → Ext G θ H θ H' ∧ Sim G θ S H' ∧ ∃ d, ds[i]? = some d ∧ Rep G θ H' d x
/-- the container stands while what must stay stays -/
def Cont (G : Gx) (H₀ : Hp) (θ₁ : List Addr) (H₁ : Hp) (b : Bool) (a : Addr) (ds : List D) (hs : List (Nat × O)) : Prop :=
  ∀ θ S H, ExtN G H₀ θ₁ H₁ θ H → Sim G θ S H → heldOk hs S = true → ∃ vs, SqB G.K b H a vs ∧ RepL G θ H ds vs
section
variable {X : Cx} {FA : Nat → Option Addr} {W : WX'} {θ : List Addr} {S : Sto} {H : Hp} {pins : List (Addr × Obj)} {τ : L2.St} {s : Shared}
theorem cont_of {H₀ : Hp} {p : Pv} {x : V} {xs : List D} (m : Sim (gx X FA) θ S H) (rp : RepP (gx X FA) H₀ θ H p x) (e : p.seqI S = some xs) :
    ∃ b a vs, x = .ref a ∧ SqB X.K b H a vs ∧ vs.length = xs.length ∧ Cont (gx X FA) H₀ θ H b a xs (p.held S) := by
  unfold Pv.seqI at e
  split at e
  · cases e
    obtain ⟨a, vs, rfl, h1, h2⟩ := RepP.t rp
    exact ⟨true, a, vs, rfl, h1, h2.length, fun θ' S' H' e' m' _ => ⟨vs, e'.tp a vs h1, h2.ext0 e'.toExt0⟩⟩
  · cases p with
    | fresh ds =>
      cases e
      obtain ⟨a, vs, rfl, h2, h3, h4, h5⟩ := rp
      exact ⟨false, a, vs, rfl, .of h2, h3.length, fun θ' S' H' e' m' _ => ⟨vs, .of (e'.fr a _ h5 h2 h4), h3.ext0 e'.toExt0⟩⟩
    | rng lo hi => exact rp.elim
    | its ys hs => exact rp.elim
    | val d =>
      cases d with
      | ref l =>
        obtain ⟨a, h1, rfl⟩ := RepP.r rp
        simp only [Pv.lstItems] at e
        split at e
        · rename_i ys q
          cases e
          obtain ⟨vs, h2, h3⟩ := m.ob l a _ h1 q
          refine ⟨false, a, vs, rfl, .of h2, h3.length, fun θ' S' H' e' m' hh => ?_⟩
          have hl : S'[l]? = some (.lst xs) := by
            simp only [Pv.held, q, heldOk, Bool.and_eq_true, decide_eq_true_eq] at hh
            exact hh.1
          obtain ⟨vs', q1, q2⟩ := m'.ob l a _ (e'.pre l a h1) hl
          exact ⟨vs', .of q1, q2⟩
        · cases e
      | rol ds =>
        cases e
        obtain ⟨a, vs, rfl, h2, h3, h4⟩ := Rep.rol_inv (G := gx X FA) (θ := θ) (H := H) rp
        exact ⟨false, a, vs, rfl, h2.sq, h4.length, fun θ' S' H' e' m' _ => ⟨vs, (e'.fz a vs h2).sq, h4.ext0 e'.toExt0⟩⟩
      | _ => cases e
theorem srcs_cont {b : Bool} {a : Addr} {xs : List D} {hs : List (Nat × O)} (hl : xs.length ≤ sizeLine) {H₀ : Hp} (c : Cont (gx X FA) H₀ θ H b a xs hs) : Srcs (gx X FA) H₀ θ H (if b then Itt X.K a else Itl X.K a) xs hs where
  len := hl
  go := fun i θ' S' H' hi e m hh => by
    obtain ⟨vs, h1, h2⟩ := c θ' S' H' e m hh
    have l := h2.length
    cases b with
    | true => exact ⟨vs, vs[i], h1, by simp⟩
    | false => exact ⟨vs, vs[i], h1, by simp⟩
  stop := fun θ' S' H' e m hh => by
    obtain ⟨vs, h1, h2⟩ := c θ' S' H' e m hh
    have l := h2.length
    cases b with
    | true => exact ⟨vs, h1, by omega⟩
    | false => exact ⟨vs, h1, by omega⟩
  yld := fun i θ' S' H' x H'' hi e m hh y => by
    obtain ⟨vs, h1, h2⟩ := c θ' S' H' e m hh
    cases b with
    | true =>
      obtain ⟨rfl, y⟩ := y
      obtain ⟨d, q1, q2⟩ := h2.get' (y vs h1)
      exact ⟨.refl, m, d, q1, q2⟩
    | false =>
      obtain ⟨rfl, y⟩ := y
      obtain ⟨d, q1, q2⟩ := h2.get' (y vs h1)
      exact ⟨.refl, m, d, q1, q2⟩
theorem enumD_length (k : Int) : ∀ xs : List D, (enumD k xs).length = xs.length
  | [] => rfl
  | x :: xs => by rw [enumD, List.length_cons, List.length_cons, enumD_length (k + 1) xs]
theorem enumD_get : ∀ (k : Int) (xs : List D) (i : Nat) (x : D), xs[i]? = some x → (enumD k xs)[i]? = some (.tup [.int (k + i), x])
  | k, [], i, x, h => by simp at h
  | k, y :: ys, 0, x, h => by simp at h; subst h; simp [enumD]
  | k, y :: ys, i + 1, x, h => by
    have := enumD_get (k + 1) ys i x (by simpa using h)
    rw [enumD, List.getElem?_cons_succ, this]
    have : k + 1 + (i : Int) = k + ((i + 1 : Nat) : Int) := by omega
    rw [this]
theorem srcs_en {b : Bool} {a : Addr} {xs : List D} {hs : List (Nat × O)} (hl : xs.length ≤ sizeLine) {H₀ : Hp} (c : Cont (gx X FA) H₀ θ H b a xs hs) : Srcs (gx X FA) H₀ θ H (ItEn X.K b a) (enumD 0 xs) hs where
  len := by rw [enumD_length]; exact hl
  go := fun i θ' S' H' hi e m hh => by
    rw [enumD_length] at hi
    obtain ⟨vs, h1, h2⟩ := c θ' S' H' e m hh
    have l := h2.length
    exact ⟨vs, vs[i], h1, by simp⟩
  stop := fun θ' S' H' e m hh => by
    obtain ⟨vs, h1, h2⟩ := c θ' S' H' e m hh
    have l := h2.length
    exact ⟨vs, h1, by rw [enumD_length]; exact l⟩
  yld := fun i θ' S' H' x H'' hi e m hh y => by
    obtain ⟨vs, h1, h2⟩ := c θ' S' H' e m hh
    obtain ⟨T, v, rfl, hT, rfl, y⟩ := y
    obtain ⟨d, q1, q2⟩ := h2.get' (y vs h1)
    have e2 := Ext.new (G := gx X FA) (θ := θ') (o := HO.tup [.int (i : Nat), v]) hT
    refine ⟨e2, m.new hT, .tup [.int (i : Nat), d], ?_, Rep.newTup hT (.cons .int (.cons q2 .nil))⟩
    have := enumD_get 0 xs i d q1
    rw [this]
    simp
theorem ints_length : ∀ (n : Nat) (lo : Int), (intsD lo n).length = n
  | 0, _ => rfl
  | n + 1, lo => by rw [intsD, List.length_cons, ints_length n]
theorem ints_get : ∀ (n : Nat) (lo : Int) (i : Nat), i < n → (intsD lo n)[i]? = some (.int (lo + i))
  | 0, _, _, h => absurd h (by omega)
  | n + 1, lo, 0, _ => by simp [intsD]
  | n + 1, lo, i + 1, h => by
    rw [intsD, List.getElem?_cons_succ, ints_get n (lo + 1) i (by omega)]
    have : lo + 1 + (i : Int) = lo + ((i + 1 : Nat) : Int) := by omega
    rw [this]
theorem srcs_rng {lo hi : Int} {H₀ : Hp} (hl : (hi - lo).toNat ≤ sizeLine) : Srcs (gx X FA) H₀ θ H (Itr lo (hi - lo).toNat) (rngL lo hi) [] where
  len := by unfold rngL; rw [ints_length]; exact hl
  go := fun i θ' S' H' hi e m hh => by unfold rngL at hi; rw [ints_length] at hi; exact hi
  stop := fun θ' S' H' e m hh => by unfold rngL; rw [ints_length]; exact Nat.le_refl _
  yld := fun i θ' S' H' x H'' hi e m hh y => by
    unfold rngL at hi
    rw [ints_length] at hi
    obtain ⟨rfl, rfl⟩ := y
    exact ⟨.refl, m, _, by unfold rngL; exact ints_get _ _ _ hi, .int⟩
end
end Nog

set_option Elab.async false
set_option linter.all false
set_option maxRecDepth 100000
set_option maxHeartbeats 1000000
/-! sources, targets, for -/
namespace Nog
open PySem L2 PyProof.Rows

abbrev SrcR := List D × List (Nat × O) × Option (Nat × List (D × D))
def srcM (p : Pv) (S : Sto) : Rs SrcR := match p.items S with
  | some xs => .ok (xs, p.held (p.lockS S), p.lock S) (p.lockS S)
  | none => .no
/-- a dict that was locked for this walk -/
def LockR (X : Cx) (H : Hp) (θ' : List Addr) (u : Option (Nat × List (D × D))) : Prop := ∀ l kvs, u = some (l, kvs) → ∃ a, θ'[l]? = some a ∧ (∀ o' u', X.H_0 a ≠ some (.frz o' u')) ∧ ∀ o v, H a ≠ some (.frz o v)
def SR (X : Cx) (FA : Nat → Option Addr) (H : Hp) : List Addr → Hp → SrcR → It → Prop := fun θ' H' a J => Srcs (gx X FA) H θ' H' J a.1 a.2.1 ∧ LockR X H θ' a.2.2
def tI (X : Cx) (FA : Nat → Option Addr) (W : WX') (m : Env → Sto → Rs SrcR) : TI := fun τ H R => ∃ σ θ S, RepE (gx X FA) θ H σ τ ∧ Sim (gx X FA) θ S H ∧ PostR (gx X FA) W θ H (SR X FA H) (m σ S) R
theorem PI.imp {X : Cx} {tg e : Expr} {t t' : TI} (h : PI X tg e t) (f : ∀ σ H R, t' σ H R → t σ H R) : PI X tg e t' := ⟨fun pins s σ H R I q => h.run pins s σ H R I (f σ H R q)⟩
theorem LockR.none {X : Cx} {H : Hp} {θ : List Addr} : LockR X H θ none := fun _ _ e => nomatch e
section
variable {X : Cx} {FA : Nat → Option Addr} {W : WX'} {θ : List Addr} {S : Sto} {H : Hp} {pins : List (Addr × Obj)} {τ : L2.St} {s : Shared}
theorem items_case {p : Pv} {xs : List D} (h : p.items S = some xs) : (p.seqI S = some xs ∧ p.lock S = none) ∨ (∃ l lk kvs, p = .val (.ref l) ∧ S[l]? = some (.dct lk kvs) ∧ xs = kvs.map (·.1)) ∨ (∃ lo hi, p = .rng lo hi) ∨ ∃ ys hs, p = .its ys hs := by
  cases p with
  | fresh ds => exact .inl ⟨h, rfl⟩
  | rng lo hi => exact .inr (.inr (.inl ⟨lo, hi, rfl⟩))
  | its ys hs => exact .inr (.inr (.inr ⟨ys, hs, rfl⟩))
  | val d =>
    cases d with
    | tup ds => exact .inl ⟨h, rfl⟩
    | rol ds => exact .inl ⟨h, rfl⟩
    | ref l =>
      simp only [Pv.items] at h
      split at h
      · rename_i ys q
        cases h
        exact .inl ⟨by simp [Pv.seqI, Pv.lstItems, q], by simp [Pv.lock, q]⟩
      · rename_i lk kvs q
        cases h
        exact .inr (.inl ⟨l, lk, kvs, rfl, q, rfl⟩)
      · cases h
    | _ => cases h
theorem srcs_dct {H₀ : Hp} {l : Nat} {d : Addr} {o : Obj} {kvs : List (D × D)} {es : List KE3} (hl : θ[l]? = some d) (h1 : H d = some (.frz o (.ext (DictAt X.w d es)))) (h2 : KtR (gx X FA) θ H kvs es) (hz : es.length ≤ sizeLine) :
    Srcs (gx X FA) H₀ θ H (ItX X.w d o es) (kvs.map (·.1)) [(l, .dct true kvs)] where
  len := by rw [List.length_map, ← h2.length]; exact hz
  go := fun i θ' S' H' hi e m hh => ⟨e.fx _ _ _ h1, by rw [List.length_map, ← h2.length] at hi; exact hi⟩
  stop := fun θ' S' H' e m hh => ⟨e.fx _ _ _ h1, by rw [List.length_map, ← h2.length]; exact Nat.le_refl _⟩
  yld := fun i θ' S' H' x H'' hi e m hh y => by
    obtain ⟨rfl, ke, k1, rfl⟩ := y
    obtain ⟨p, q1, q2⟩ := (h2.ext0 e.toExt0).at k1
    exact ⟨.refl, m, p.1, by rw [List.getElem?_map, q1]; rfl, q2⟩
theorem sI_any {tg e : Expr} {ma : Env → Sto → Rs Pv} (ha : PE X e (tE (gx X FA) W ma)) : PI X tg e (tI X FA W fun σ S => (ma σ S).bind srcM) :=
  PI.imp (pi_tri ha) fun τ H R ⟨σ, θ, S, rE, m, h⟩ => by
    refine ⟨σ, θ, S, rE, m, Post.iff.mpr ((PostR.bind (R := RepP (gx X FA) H) h).mono fun x H1 ⟨p, θ1, S1, _, e1, m1, r1, h1⟩ => ?_)⟩
    unfold srcM at h1
    split at h1
    · rename_i xs hx
      rcases items_case hx with ⟨hs, hk⟩ | ⟨l, lk, kvs, rfl, q, rfl⟩ | ⟨lo, hi, rfl⟩ | ⟨ys, hs, rfl⟩
      · obtain ⟨b, a, vs, rfl, c1, c2, c3⟩ := cont_of m1 r1 hs
        have e0 : p.lockS S1 = S1 := by unfold Pv.lockS; rw [hk]
        rw [e0, hk] at h1
        exact .inl ⟨b, a, vs, rfl, c1, fun hz => h1 θ1 H1 _ e1 m1 ⟨srcs_cont (show xs.length ≤ sizeLine by omega) c3, LockR.none⟩⟩
      · obtain ⟨a, l1, rfl⟩ := RepP.r r1
        obtain ⟨hn, es, l2, l3⟩ := m1.ob l a _ l1 q
        have hlt : l < S1.length := (List.getElem?_eq_some_iff.mp q).1
        cases lk with
        | true =>
          obtain ⟨o, l2⟩ := l2
          have e0 : (Pv.val (.ref l)).lock S1 = none := by simp [Pv.lock, q]
          have e2 : (Pv.val (.ref l)).lockS S1 = S1 := by unfold Pv.lockS; rw [e0]
          have e3 : (Pv.val (.ref l)).held S1 = [(l, .dct true kvs)] := by simp [Pv.held, q]
          rw [e2, e0, e3] at h1
          exact .inr (.inl ⟨a, o, es, rfl, l2, fun hz => h1 θ1 H1 _ e1 m1 ⟨srcs_dct l1 l2 l3 hz, LockR.none⟩⟩)
        | false =>
          have l2 : H1 a = some (.ext (DictAt X.w a es)) := l2
          have e0 : (Pv.val (.ref l)).lock S1 = some (l, kvs) := by simp [Pv.lock, q]
          have e2 : (Pv.val (.ref l)).lockS S1 = S1.set l (.dct true kvs) := by unfold Pv.lockS; rw [e0]
          have e3 : (Pv.val (.ref l)).held (S1.set l (.dct true kvs)) = [(l, .dct true kvs)] := by simp [Pv.held, hlt]
          rw [e2, e0, e3] at h1
          refine .inr (.inr ⟨a, es, rfl, l2, fun o hz hnf => ?_⟩)
          have ew : Ext (gx X FA) θ1 H1 θ1 (upd H1 a (.frz o (.ext (DictAt X.w a es)))) := Ext.write (mem_ix.mpr ⟨l, l1⟩) (fun vs z => by rw [l2] at z; cases z) fun o u z => by rw [l2] at z; cases z
          refine h1 θ1 _ _ (e1.trans ew) (m1.write l1 ew ⟨hn, es, ⟨o, upd_same⟩, l3.ext ew⟩) ⟨srcs_dct l1 upd_same (l3.ext ew) hz, fun l' kvs' z => ?_⟩
          cases z
          exact ⟨a, l1, hnf, fun o v z => by have := e1.fx _ _ _ z; rw [l2] at this; cases this⟩
      · exact r1.elim
      · exact r1.elim
    · exact h1.elim
/-- unlocking behind a walk -/
theorem unl_step {θ' : List Addr} {S' S3 : Sto} {H' : Hp} {u : Option (Nat × List (D × D))} {Q : Hp → Prop} (m : Sim (gx X FA) θ' S' H') (e : Ext (gx X FA) θ H θ' H') (lk : LockR X H θ' u) (hu : unl u S' = some S3)
    (q : ∀ H3, Ext (gx X FA) θ H θ' H3 → Sim (gx X FA) θ' S3 H3 → Ext0 (gx X FA) θ' H' θ' H3 → (∀ b, b ∉ θ' → H3 b = H' b) → Q H3) : UQ X Q H' := by
  cases u with
  | none => cases hu; exact .inl (q H' e m Ext.refl.toExt0 fun _ _ => rfl)
  | some p =>
    obtain ⟨l, kvs⟩ := p
    obtain ⟨a, h1, h2, h3⟩ := lk l kvs rfl
    unfold unl at hu
    dsimp only at hu
    split at hu
    · rename_i hS
      cases hu
      obtain ⟨hn, es, ⟨o, h4⟩, h5⟩ := m.ob l a _ h1 hS
      have e0 : Ext0 (gx X FA) θ' H' θ' (upd H' a (.ext (DictAt X.w a es))) := Ext0.unl h4
      exact .inr ⟨a, o, _, h4, h2, q _ (e.unl h4 h3 (mem_ix.mpr ⟨l, h1⟩)) (m.write0 h1 e0 ⟨hn, es, upd_same, h5.ext0 e0⟩) e0 fun b hb => upd_ne fun z => hb (by rw [z]; exact mem_ix.mpr ⟨l, h1⟩)⟩
    · cases hu
theorem LockR.ext {θ' θ1 : List Addr} {H' H1 : Hp} {u : Option (Nat × List (D × D))} (lk : LockR X H θ' u) (e : Ext (gx X FA) θ' H' θ1 H1) : LockR X H θ1 u := fun l kvs z => by
  obtain ⟨a, h1, h2, h3⟩ := lk l kvs z
  exact ⟨a, e.pre l a h1, h2, h3⟩

/-! ### ranges, enumerate -/
def rg1M (ma : Env → Sto → Rs Pv) (σ : Env) (S : Sto) : Rs Pv := (ma σ S).bind fun p S1 => match p with
    | .val (.int n) => if decide (-lim ≤ n) && decide (n ≤ lim) then .ok (.rng 0 n) S1 else .no
    | _ => .no
theorem sI_rg1 {tg e : Expr} {p pos : Pos} {ma : Env → Sto → Rs Pv} (hg : Gl X "range") (hm : X.mg "range" = none) (hp : isPlainE e = true) (ha : PE X e (tE (gx X FA) W ma)) :
    PI X tg (.Call (.Name "range" p) [e] [] pos) (tI X FA W fun σ S => (rg1M ma σ S).bind srcM) :=
  PI.imp (pi_range1 hg hm (pa_cons ha pa_nil (star_cons hp)) (star_cons hp)) fun τ H R ⟨σ, θ, S, rE, m, h⟩ => by
    unfold rg1M at h
    dsimp only at h
    rw [Rs.bind_assoc] at h
    refine ⟨σ, θ, S, rE, m, Post.iff.mpr ((PostR.bind (R := RepP (gx X FA) H) h).mono fun x H1 ⟨p, θ1, S1, _, e1, m1, r1, h1⟩ => ?_)⟩
    split at h1
    · rename_i n _
      split at h1
      · rename_i c
        simp only [Bool.and_eq_true, decide_eq_true_eq] at c
        obtain rfl := RepP.i r1
        have hl : (lim : Int) = 16777216 := rfl
        have hz : n.toNat ≤ sizeLine := by rw [sizeLine_eq]; omega
        refine ⟨n, rfl, by omega, by omega, ?_⟩
        have e0 : (n - 0).toNat = n.toNat := by omega
        have := h1 θ1 H1 (Itr 0 (n - 0).toNat) e1 m1 ⟨srcs_rng (by rw [e0]; exact hz), LockR.none⟩
        rw [e0] at this
        exact this
      · exact h1.elim
    · exact h1.elim
def rg2M (ma mb : Env → Sto → Rs Pv) (σ : Env) (S : Sto) : Rs Pv := (ma σ S).bind fun p S1 => (mb σ S1).bind fun q S2 => match p, q with
    | .val (.int m), .val (.int n) => if decide (n - m ≤ lim) && decide (m.natAbs < 2 ^ 62) && decide (n.natAbs < 2 ^ 62) then .ok (.rng m n) S2 else .no
    | _, _ => .no
theorem sI_rg2 {tg e f : Expr} {p pos : Pos} {ma mb : Env → Sto → Rs Pv} (hg : Gl X "range") (hm : X.mg "range" = none) (hp : isPlainE e = true) (hq : isPlainE f = true) (ha : PE X e (tE (gx X FA) W ma)) (hb : PE X f (tE (gx X FA) W mb)) :
    PI X tg (.Call (.Name "range" p) [e, f] [] pos) (tI X FA W fun σ S => (rg2M ma mb σ S).bind srcM) :=
  PI.imp (pi_range2 hg hm (pa_cons ha (pa_cons hb pa_nil (star_cons hq)) (star_cons hp)) (by rw [star_cons hp, star_cons hq]; rfl) (star_cons hq)) fun τ H R ⟨σ, θ, S, rE, m, h⟩ => by
    unfold rg2M at h
    dsimp only at h
    rw [Rs.bind_assoc] at h
    refine ⟨σ, θ, S, rE, m, Post.iff.mpr ((PostR.bind (R := RepP (gx X FA) H) h).mono fun x H1 ⟨p, θ1, S1, _, e1, m1, r1, h1⟩ => ?_)⟩
    rw [Rs.bind_assoc] at h1
    refine ⟨σ, θ1, S1, rE.ext e1, m1, Post.iff.mpr ((PostR.bind (R := RepP (gx X FA) H1) (PostR.rebase (R := SR X FA H) e1 (fun _ _ _ _ q => q) h1)).mono fun y H2 ⟨q, θ2, S2, _, e2, m2, r2, h2⟩ => ?_)⟩
    split at h2
    · rename_i i j _ _ _
      split at h2
      · rename_i c
        simp only [Bool.and_eq_true, decide_eq_true_eq] at c
        obtain rfl := RepP.i r1
        obtain rfl := RepP.i r2
        have hl : (lim : Int) = 16777216 := rfl
        exact ⟨i, j, rfl, ⟨by omega, by omega, by omega, by omega⟩, h2 θ2 H2 (Itr i (j - i).toNat) e2 m2 ⟨srcs_rng (by rw [sizeLine_eq]; omega), LockR.none⟩⟩
      · exact h2.elim
    · exact h2.elim
def enM (ma : Env → Sto → Rs Pv) (σ : Env) (S : Sto) : Rs Pv := (ma σ S).bind fun p S1 => match p.seqI S1 with
    | some xs => .ok (.its (enumD 0 xs) (p.held S1)) S1
    | none => .no
theorem sI_en {e : Expr} {elts : List Expr} {kk : Nat} {p pos tpos : Pos} {ma : Env → Sto → Rs Pv} (hg : Gl X "enumerate") (hm : X.mg "enumerate" = none) (hp : isPlainE e = true) (ha : PE X e (tE (gx X FA) W ma)) :
    PI X (.Tuple elts kk tpos) (.Call (.Name "enumerate" p) [e] [] pos) (tI X FA W fun σ S => (enM ma σ S).bind srcM) :=
  PI.imp (pi_en hg hm ha (star_cons hp)) fun τ H R ⟨σ, θ, S, rE, m, h⟩ => by
    unfold enM at h
    dsimp only at h
    rw [Rs.bind_assoc] at h
    refine ⟨σ, θ, S, rE, m, Post.iff.mpr ((PostR.bind (R := RepP (gx X FA) H) h).mono fun x H1 ⟨p, θ1, S1, _, e1, m1, r1, h1⟩ => ?_)⟩
    split at h1
    · rename_i xs hs
      obtain ⟨b, a, vs, rfl, c1, c2, c3⟩ := cont_of m1 r1 hs
      exact ⟨b, a, vs, rfl, c1, fun hz => h1 θ1 H1 _ e1 m1 ⟨srcs_en (by omega) c3, LockR.none⟩⟩
    · exact h1.elim
end
end Nog

set_option Elab.async false
set_option linter.all false
set_option maxRecDepth 100000
set_option maxHeartbeats 1000000
/-! targets, statements -/
namespace Nog
open PySem L2 PyProof.Rows

/-! ### what is wanted behind a statement -/
def PostS (G : Gx) (W : WX') (θ : List Addr) (H : Hp) (r : Sr) (D : Ends) : Prop :=
  match r with
  | .nx σ' S' => ∀ θ' H' τ', Ext G θ H θ' H' → Sim G θ' S' H' → RepE G θ' H' σ' τ' → D.nx τ' H'
  | .rt d S' => ∀ θ' H' v, Ext G θ H θ' H' → Sim G θ' S' H' → Rep G θ' H' d v → D.rt v H'
  | .bk σ' S' => ∀ θ' H' τ', Ext G θ H θ' H' → Sim G θ' S' H' → RepE G θ' H' σ' τ' → D.bk τ' H'
  | .ct σ' S' => ∀ θ' H' τ', Ext G θ H θ' H' → Sim G θ' S' H' → RepE G θ' H' σ' τ' → D.ct τ' H'
  | .ex x _ S' => ∀ θ' H', Ext G θ H θ' H' → Sim G θ' S' H' → W x θ' S' H'
  | .no => False
def tS (G : Gx) (W : WX') (m : Env → Sto → Sr) : TS := fun D τ H => ∃ σ θ S, RepE G θ H σ τ ∧ Sim G θ S H ∧ PostS G W θ H (m σ S) D
theorem PostS.rebase {G : Gx} {W : WX'} {θ θ1 : List Addr} {H H1 : Hp} {r : Sr} {D : Ends} (e : Ext G θ H θ1 H1) (h : PostS G W θ H r D) : PostS G W θ1 H1 r D := by
  cases r with
  | nx σ' S' => exact fun θ' H' τ' e' m q => h θ' H' τ' (e.trans e') m q
  | rt d S' => exact fun θ' H' v e' m q => h θ' H' v (e.trans e') m q
  | bk σ' S' => exact fun θ' H' τ' e' m q => h θ' H' τ' (e.trans e') m q
  | ct σ' S' => exact fun θ' H' τ' e' m q => h θ' H' τ' (e.trans e') m q
  | ex x σ' S' => exact fun θ' H' e' m => h θ' H' (e.trans e') m
  | no => exact h
theorem PostS.mono {G : Gx} {W : WX'} {θ : List Addr} {H : Hp} {r : Sr} {D D' : Ends} (h : PostS G W θ H r D) (h1 : ∀ τ H, D.nx τ H → D'.nx τ H) (h2 : ∀ v H, D.rt v H → D'.rt v H) (h3 : ∀ τ H, D.bk τ H → D'.bk τ H) (h4 : ∀ τ H, D.ct τ H → D'.ct τ H) : PostS G W θ H r D' := by
  cases r with
  | nx σ' S' => exact fun θ' H' τ' e' m q => h1 _ _ (h θ' H' τ' e' m q)
  | rt d S' => exact fun θ' H' v e' m q => h2 _ _ (h θ' H' v e' m q)
  | bk σ' S' => exact fun θ' H' τ' e' m q => h3 _ _ (h θ' H' τ' e' m q)
  | ct σ' S' => exact fun θ' H' τ' e' m q => h4 _ _ (h θ' H' τ' e' m q)
  | ex x σ' S' => exact h
  | no => exact h
section
variable {G : Gx} {W : WX'} {θ : List Addr} {H : Hp} {α β : Type} {R : List Addr → Hp → α → β → Prop}
/-- a result, then a statement's rest -/
theorem PostS.st {r : Rs α} {σ : Env} {k : α → Sto → Sr} {D : Ends} (h : PostS G W θ H (r.st σ k) D) :
    PostR G W θ H R r (fun b H1 => ∃ a θ1 S1, r = .ok a S1 ∧ Ext G θ H θ1 H1 ∧ Sim G θ1 S1 H1 ∧ R θ1 H1 a b ∧ PostS G W θ H (k a S1) D) := by
  cases r with
  | ok a S => exact fun θ' H' b e m q => ⟨a, θ', S, rfl, e, m, q, h⟩
  | ex x S => exact h
  | no => exact h
theorem PostS.val {r : Rs Pv} {σ : Env} {k : D → Sto → Sr} {D : Ends} (h : PostS G W θ H (r.st σ fun p S1 => (p.toVal S1).st σ fun d S2 => k d S2) D) :
    Post G W θ H r (fun v H1 => ∃ d θ2 S2, Ext G θ H θ2 H1 ∧ Sim G θ2 S2 H1 ∧ Rep G θ2 H1 d v ∧ PostS G W θ H (k d S2) D) := by
  cases r with
  | no => exact h
  | ex x S => exact h
  | ok p S1 =>
    intro θ' H' v e m q
    replace h : PostS G W θ H ((p.toVal S1).st σ fun d S2 => k d S2) D := h
    rcases toVal_ok p S1 with ⟨d, S2, t⟩ | t
    · rw [t] at h
      obtain ⟨θ2, e2, m2, r2⟩ := toVal_rep e m q t
      exact ⟨d, θ2, S2, e2, m2, r2, h⟩
    · rw [t] at h
      exact h.elim
end

/-! ### targets -/
/-- outside these slots nothing changed -/
def WEq (is : List Nat) (τ τ' : L2.St) : Prop := ∀ vs : List Nat, (∀ i ∈ is, i ∈ vs) → L2.wipe τ' vs = L2.wipe τ vs
theorem wipe_get (τ : L2.St) : ∀ (vs : List Nat) (j : Nat), (L2.wipe τ vs)[j]? = if j ∈ vs then (τ[j]?).map fun _ => none else τ[j]?
  | [], j => by simp [L2.wipe]
  | v :: vs, j => by
    rw [L2.wipe]
    by_cases e : v = j
    · subst e
      have := wipe_get τ vs v
      by_cases h : v < τ.length
      · rw [List.getElem?_set_self (by rw [wipe_length]; exact h)]
        simp [List.getElem?_eq_getElem h]
      · rw [List.getElem?_eq_none (by rw [List.length_set, wipe_length]; omega), List.getElem?_eq_none (by omega)]
        simp
    · rw [List.getElem?_set_ne e, wipe_get τ vs j]
      have : (j ∈ v :: vs) ↔ j ∈ vs := by simp [Ne.symm e]
      simp only [this]
theorem WEq.set (τ : L2.St) (i : Nat) (v : V) : WEq [i] τ (τ.set i (some v)) := fun vs h => by
  have hi := h i (by simp)
  apply List.ext_getElem?
  intro j
  rw [wipe_get, wipe_get]
  by_cases hj : j ∈ vs
  · rw [if_pos hj, if_pos hj]
    by_cases e : i = j
    · subst e
      by_cases hl : i < τ.length
      · rw [List.getElem?_set_self hl, List.getElem?_eq_getElem hl]; rfl
      · rw [List.getElem?_eq_none (by rw [List.length_set]; omega), List.getElem?_eq_none (by omega)]
    · rw [List.getElem?_set_ne e]
  · rw [if_neg hj, if_neg hj, List.getElem?_set_ne (fun e : i = j => hj (by rw [← e]; exact hi))]
def gT (G : Gx) (tg : Tg) : TG := fun v τ H Q => ∃ θ d σ σ', RepE G θ H σ τ ∧ Rep G θ H d v ∧ bindTg tg d σ = some σ' ∧ ∀ τ', RepE G θ H σ' τ' → WEq tg.slots τ τ' → Q τ' H
theorem PG.imp {X : Cx} {e : Expr} {t t' : TG} (h : PG X e t) (f : ∀ v σ H Q, t' v σ H Q → t v σ H Q) : PG X e t' := ⟨fun pins s σ H v u Q I r q => h.run pins s σ H v u Q I r (f v σ H Q q)⟩
theorem PGs.imp {X : Cx} {e : List Expr} {t t' : TGs} (h : PGs X e t) (f : ∀ v σ H Q, t' v σ H Q → t v σ H Q) : PGs X e t' := ⟨fun pins s σ H v u Q I r q => h.run pins s σ H v u Q I r (f v σ H Q q)⟩
section
variable {X : Cx} {FA : Nat → Option Addr} {W : WX'} {pos : Pos}
theorem sG_nm {i : Nat} {x : Str} (hN : X.N.Nodup) (hi : X.N[i]? = some x) (hx : Loc X.env.scope x) (hf : X.fn x = true ∨ X.env.scope.names.lookup x = some .local) : PG X (.Name x pos) (gT (gx X FA) (.nm i)) :=
  PG.imp (pg_name hN hi hx hf) fun v τ H Q ⟨θ, d, σ, σ', rE, r, b, q⟩ => by
    cases b
    exact q _ (rE.set i r) (WEq.set τ i v)
/-- several names -/
def gTs (G : Gx) (is : List Nat) : TGs := fun vs τ H Q => ∃ θ ds σ σ', RepE G θ H σ τ ∧ RepL G θ H ds vs ∧ setAll is ds σ = some σ' ∧ ∀ τ', RepE G θ H σ' τ' → WEq is τ τ' → Q τ' H
theorem sGs_nil : PGs X [] (gTs (gx X FA) []) :=
  PGs.imp pgs_nil fun vs τ H Q ⟨θ, ds, σ, σ', rE, r, b, q⟩ => by
    cases ds with
    | nil => cases b; exact ⟨r.nil_inv, q _ rE fun _ _ => rfl⟩
    | cons d ds => cases b
theorem assign_cons {e : Expr} {es : List Expr} {env : PySem.Env} (h : isPlainE e = true) : assignEach (e :: es) env = (false, assign e env) :: assignEach es env := by
  cases e <;> first | rfl | cases h
theorem sGs_cons {i : Nat} {x : Str} {es : List Expr} {is : List Nat} (hN : X.N.Nodup) (hi : X.N[i]? = some x) (hx : Loc X.env.scope x) (hf : X.fn x = true ∨ X.env.scope.names.lookup x = some .local) (h : PGs X es (gTs (gx X FA) is)) : PGs X (.Name x pos :: es) (gTs (gx X FA) (i :: is)) :=
  PGs.imp (pgs_cons (pg_name hN hi hx hf) h (by rw [assign_cons rfl]; rfl)) fun vs τ H Q ⟨θ, ds, σ, σ', rE, r, b, q⟩ => by
    cases ds with
    | nil => cases b
    | cons d ds =>
      obtain ⟨v, vr, rfl, r1, r2⟩ := r.cons_inv
      exact ⟨v, vr, rfl, θ, ds, σ.set i (some d), σ', rE.set i r1, r2, b, fun τ' r' w => q τ' r' fun vs h => (w vs fun k hk => h k (List.mem_cons_of_mem _ hk)).trans (WEq.set τ i v vs fun k hk => h k (by simp at hk; subst hk; exact List.mem_cons_self))⟩
theorem setAll_length : ∀ {is : List Nat} {ds : List D} {σ σ' : Env}, setAll is ds σ = some σ' → ds.length = is.length
  | [], [], _, _, _ => rfl
  | [], _ :: _, _, _, h => by cases h
  | _ :: _, [], _, _, h => by cases h
  | _ :: is, _ :: ds, σ, σ', h => by rw [List.length_cons, List.length_cons, setAll_length (is := is) h]
theorem sG_tp {es : List Expr} {k : Nat} {is : List Nat} (hc : X.calm = true) (hn : (assignEach es X.env).length = is.length) (hst : (assignEach es X.env).findIdx? (·.1) = none) (h : PGs X es (gTs (gx X FA) is)) : PG X (.Tuple es k pos) (gT (gx X FA) (.tp is)) :=
  PG.imp (pg_tup hc h hn hst) fun v τ H Q ⟨θ, d, σ, σ', rE, r, b, q⟩ => by
    unfold bindTg at b
    dsimp only at b
    split at b
    · rename_i ds
      obtain ⟨a, vs, rfl, h1, h2⟩ := Rep.tup_inv r
      exact ⟨a, vs, rfl, h1, by rw [h2.length, setAll_length b], θ, ds, σ, σ', rE, h2, b, q⟩
    · cases b

/-! ### statements -/
variable {a b c e : Expr} {st : Stmt} {sts body : List Stmt} {ma mb mc : Env → Sto → Rs Pv} {mt ms : Env → Sto → Sr} {tg : Expr} {tg' : Tg}
theorem sSs_nil : PSs X [] (tS (gx X FA) W fun σ S => .nx σ S) :=
  PSs.imp pss_nil fun D τ H ⟨σ, θ, S, rE, m, h⟩ => h θ H τ .refl m rE
def seqM (m1 m2 : Env → Sto → Sr) (σ : Env) (S : Sto) : Sr := match m1 σ S with
    | .nx σ1 S1 => m2 σ1 S1
    | r => r
theorem sSs_cons (h1 : PS X st (tS (gx X FA) W mt)) (h2 : PSs X sts (tS (gx X FA) W ms)) : PSs X (st :: sts) (tS (gx X FA) W (seqM mt ms)) :=
  PSs.imp (pss_cons h1 h2) fun D τ H ⟨σ, θ, S, rE, m, h⟩ => by
    refine ⟨σ, θ, S, rE, m, ?_⟩
    unfold seqM at h
    revert h
    cases mt σ S with
    | nx σ' S' => exact fun h θ' H' τ' e' m' q => ⟨σ', θ', S', q, m', PostS.rebase e' h⟩
    | rt d S' => exact fun h => h
    | bk σ' S' => exact fun h => h
    | ct σ' S' => exact fun h => h
    | ex x σ' S' => exact fun h => h
    | no => exact fun h => h
theorem sS_pass : PS X (.Pass pos) (tS (gx X FA) W fun σ S => .nx σ S) := PS.imp ps_pass fun D τ H ⟨σ, θ, S, rE, m, h⟩ => h θ H τ .refl m rE
theorem sS_break : PS X (.Break pos) (tS (gx X FA) W fun σ S => .bk σ S) := PS.imp ps_break fun D τ H ⟨σ, θ, S, rE, m, h⟩ => h θ H τ .refl m rE
theorem sS_continue : PS X (.Continue pos) (tS (gx X FA) W fun σ S => .ct σ S) := PS.imp ps_continue fun D τ H ⟨σ, θ, S, rE, m, h⟩ => h θ H τ .refl m rE
theorem sS_retN : PS X (.Return none pos) (tS (gx X FA) W fun σ S => .rt .non S) := PS.imp ps_retN fun D τ H ⟨σ, θ, S, rE, m, h⟩ => h θ H .non .refl m .non
theorem sS_ret (ha : PE X a (tE (gx X FA) W ma)) : PS X (.Return (some a) pos) (tS (gx X FA) W fun σ S => (ma σ S).st σ fun p S1 => (p.toVal S1).st σ fun d S2 => .rt d S2) :=
  PS.imp (ps_ret ha) fun D τ H ⟨σ, θ, S, rE, m, h⟩ => by
    refine ⟨σ, θ, S, rE, m, h.val.mono fun v H1 ⟨d, θ2, S2, e2, m2, r2, h2⟩ => h2 θ2 H1 v e2 m2 r2⟩
theorem sS_expr (ha : PE X a (tE (gx X FA) W ma)) (hs : swapsWith a none pos.line X.env = pure false) : PS X (.Expr a pos) (tS (gx X FA) W fun σ S => (ma σ S).st σ fun _ S1 => .nx σ S1) :=
  PS.imp (ps_expr ha hs) fun D τ H ⟨σ, θ, S, rE, m, h⟩ => by
    refine ⟨σ, θ, S, rE, m, Post.iff.mpr ((PostS.st (R := RepP (gx X FA) H) h).mono fun x H1 ⟨p, θ1, S1, _, e1, m1, r1, h1⟩ => h1 θ1 H1 τ e1 m1 (rE.ext e1))⟩
theorem sS_asg (ha : PE X a (tE (gx X FA) W ma)) (hg : PG X tg (gT (gx X FA) tg')) (hs : swapsWithSole [tg] a pos.line X.env = pure false) (hw : swappedStores [tg] a X.env = pure none) (hp : isPlainE tg = true) :
    PS X (.Assign [tg] a pos) (tS (gx X FA) W fun σ S => (ma σ S).st σ fun p S1 => (p.toVal S1).st σ fun d S2 => match bindTg tg' d σ with
    | some σ1 => .nx σ1 S2
    | none => .no) :=
  PS.imp (ps_asg ha hg hs hw (by rw [assign_cons hp]; rfl)) fun D τ H ⟨σ, θ, S, rE, m, h⟩ => by
    refine ⟨σ, θ, S, rE, m, h.val.mono fun v H1 ⟨d, θ2, S2, e2, m2, r2, h2⟩ => ?_⟩
    cases eb : bindTg tg' d σ with
    | none => simp only [eb] at h2; exact h2.elim
    | some σ1 =>
      simp only [eb] at h2
      exact ⟨θ2, d, σ, σ1, rE.ext e2, r2, eb, fun τ' r' _ => h2 θ2 H1 τ' e2 m2 r'⟩
/-- the test of an if, a while -/
theorem tT_read {G : Gx} {θ : List Addr} {H : Hp} {σ : Env} {S : Sto} {τ : L2.St} {k : Bool → Sto → Sr} {D : Ends} (rE : RepE G θ H σ τ) (m : Sim G θ S H) (h : PostS G W θ H ((truM mc σ S).st σ k) D) :
    tT G W mc τ H fun b H1 => ∃ θ1 S1, RepE G θ1 H1 σ τ ∧ Ext G θ H θ1 H1 ∧ Sim G θ1 S1 H1 ∧ PostS G W θ H (k b S1) D :=
  ⟨σ, θ, S, rE, m, (PostS.st (R := fun _ _ a b => a = b) h).mono fun b H1 ⟨b', θ1, S1, _, e1, m1, eq, h1⟩ => by subst eq; exact ⟨θ1, S1, rE.ext e1, e1, m1, h1⟩⟩
theorem sS_if {bd1 bd2 : List Stmt} {m1 m2 : Env → Sto → Sr} (hc : PT X c (tT (gx X FA) W mc)) (h1 : PSs X bd1 (tS (gx X FA) W m1)) (h2 : PSs X bd2 (tS (gx X FA) W m2)) :
    PS X (.If c bd1 bd2 pos) (tS (gx X FA) W fun σ S => (truM mc σ S).st σ fun t S1 => if t then m1 σ S1 else m2 σ S1) :=
  PS.imp (ps_if hc h1 h2) fun D τ H ⟨σ, θ, S, rE, m, h⟩ => by
    obtain ⟨σ', θ', S', rE', m', h'⟩ := tT_read rE m h
    refine ⟨σ', θ', S', rE', m', h'.mono fun b H1 ⟨θ1, S1, rE1, e1, m1, h1⟩ => ?_⟩
    cases b with
    | true =>
      rw [if_pos rfl]
      rw [if_pos rfl] at h1
      exact ⟨σ, θ1, S1, rE1, m1, PostS.rebase e1 h1⟩
    | false =>
      rw [if_neg Bool.false_ne_true]
      rw [if_neg Bool.false_ne_true] at h1
      exact ⟨σ, θ1, S1, rE1, m1, PostS.rebase e1 h1⟩
theorem sS_while {m1 : Env → Sto → Sr} (hp : PassesOwn (model X.prog X.w) X.A X.env X.xe) (hc : PT X c (tT (gx X FA) W mc)) (hb : PSs X body (tS (gx X FA) W m1)) :
    PS X (.While c body [] pos) (tS (gx X FA) W (wl (truM mc) m1)) :=
  PS.imp (ps_while hp hc hb) fun D τ H ⟨σ, θ, S, rE, m, h⟩ => by
    have hn : wl (truM mc) m1 σ S ≠ .no := fun z => by rw [z] at h; exact h
    obtain ⟨n, en, _⟩ := wl_some hn
    rw [en] at h
    refine ⟨fun k τ' H' => ∃ σ' θ' S', RepE (gx X FA) θ' H' σ' τ' ∧ Sim (gx X FA) θ' S' H' ∧ PostS (gx X FA) W θ' H' (wlN (truM mc) m1 k σ' S') D, ⟨n, σ, θ, S, rE, m, h⟩, ?_⟩
    rintro k τ' H' ⟨σ', θ', S', rE', m', h'⟩
    cases k with
    | zero => exact h'.elim
    | succ k =>
      have h3 : PostS (gx X FA) W θ' H' ((truM mc σ' S').st σ' fun t S1 => if t then (match m1 σ' S1 with
          | .nx σ2 S2 => wlN (truM mc) m1 k σ2 S2
          | .ct σ2 S2 => wlN (truM mc) m1 k σ2 S2
          | .bk σ2 S2 => .nx σ2 S2
          | r => r) else .nx σ' S1) D := by
        rw [wlN] at h'
        revert h'
        cases truM mc σ' S' with
        | ok t S1 => cases t <;> exact fun h => h
        | ex x S1 => exact fun h => h
        | no => exact fun h => h
      obtain ⟨σ3, θ3, S3, rE3, m3, h4⟩ := tT_read rE' m' h3
      refine ⟨σ3, θ3, S3, rE3, m3, h4.mono fun b H1 ⟨θ1, S1, rE1, e1, m1', h1⟩ => ?_⟩
      cases b with
      | true =>
        rw [if_pos rfl]
        rw [if_pos rfl] at h1
        refine ⟨fun τ2 H2 => ∃ σ2 θ2 S2, RepE (gx X FA) θ2 H2 σ2 τ2 ∧ Sim (gx X FA) θ2 S2 H2 ∧ PostS (gx X FA) W θ2 H2 (wlN (truM mc) m1 k σ2 S2) D, fun τ2 H2 q => ⟨k, Nat.lt_succ_self k, q⟩, σ', θ1, S1, rE1, m1', ?_⟩
        have h5 := PostS.rebase e1 h1
        revert h5
        cases m1 σ' S1 with
        | nx σ2 S2 => exact fun h θ2 H2 τ2 e2 m2 r2 => ⟨σ2, θ2, S2, r2, m2, PostS.rebase e2 h⟩
        | ct σ2 S2 => exact fun h θ2 H2 τ2 e2 m2 r2 => ⟨σ2, θ2, S2, r2, m2, PostS.rebase e2 h⟩
        | bk σ2 S2 => exact fun h => h
        | rt d S2 => exact fun h => h
        | ex x σ2 S2 => exact fun h => h
        | no => exact fun h => h
      | false =>
        rw [if_neg Bool.false_ne_true]
        rw [if_neg Bool.false_ne_true] at h1
        exact h1 θ1 H1 τ' e1 m1' rE1
/-- what the wish says of a locked dict, unlocked -/
def UnlW (X : Cx) (FA : Nat → Option Addr) (W : WX') : Prop := ∀ (x : Nog.X) (θ θ' : List Addr) (H H' : Hp) (S' S3 : Sto) (u : Option (Nat × List (D × D))), Sim (gx X FA) θ' S' H' → Ext (gx X FA) θ H θ' H' → LockR X H θ' u → unl u S' = some S3 →
  (∀ θ' H', Ext (gx X FA) θ H θ' H' → Sim (gx X FA) θ' S3 H' → W x θ' S3 H') → W x θ' S' H'
theorem unlW_none : UnlW X FA (fun _ _ _ _ => False) := fun x θ θ' H H' S' S3 u m e lk hu h => by
  rcases unl_step (Q := fun _ => False) m e lk hu (fun H3 e3 m3 _ _ => h θ' H3 e3 m3) with z | ⟨_, _, _, _, _, z⟩ <;> exact z
def frM (tg' : Tg) (mb : Env → Sto → Sr) : D → Env → Sto → Sr := fun x σ S => match bindTg tg' x σ with
      | some σ1 => mb σ1 S
      | none => .no
def forM (ms : Env → Sto → Rs SrcR) (tg' : Tg) (mb : Env → Sto → Sr) (σ : Env) (S : Sto) : Sr := (ms σ S).st σ fun a S1 => (frRun a.2.1 (frM tg' mb) a.1 σ S1).unl a.2.2
theorem sS_for {iter : Expr} {mi : Env → Sto → Rs SrcR} {m1 : Env → Sto → Sr} (hW : UnlW X FA W) (hp : PassesOwn (model X.prog X.w) X.A X.env X.xe) (hc : X.calm = true) (hi : PI X tg iter (tI X FA W mi)) (hg : PG X tg (gT (gx X FA) tg')) (hb : PSs X body (tS (gx X FA) W m1)) (hs : isPlainE iter = true) :
    PS X (.For tg iter body [] pos) (tS (gx X FA) W (forM mi tg' m1)) :=
  PS.imp (ps_unl (ps_for hp hc hi hg hb (fold_plain hs))) fun D τ H ⟨σ, θ, S, rE, m, h⟩ => by
    refine ⟨σ, θ, S, rE, m, (PostS.st (R := SR X FA H) h).mono fun J H1 ⟨⟨xs, hs, u⟩, θ1, S1, _, e1, m1', ⟨src, lk⟩, h1⟩ => ?_⟩
    dsimp only at src lk h1
    refine ⟨fun i k τ' H' => k = xs.length - i ∧ i ≤ xs.length ∧ ∃ σ' θ' S', RepE (gx X FA) θ' H' σ' τ' ∧ Sim (gx X FA) θ' S' H' ∧ Ext (gx X FA) θ1 H1 θ' H' ∧ PostS (gx X FA) W θ H ((frRun hs (frM tg' m1) (xs.drop i) σ' S').unl u) D,
      ⟨xs.length, by simp, Nat.zero_le _, σ, θ1, S1, rE.ext e1, m1', .refl, h1⟩, ?_⟩
    rintro i k τ' H' ⟨rfl, hi, σ', θ', S', rE', m', e', h'⟩
    have hh : heldOk hs S' = true := by
      cases q : heldOk hs S' with
      | true => rfl
      | false =>
        have : frRun hs (frM tg' m1) (xs.drop i) σ' S' = .no := by
          cases xs.drop i <;> simp [frRun, q]
        rw [this] at h'
        exact h'.elim
    have eo := e1.trans e'
    by_cases hlt : i < xs.length
    · refine .inr ⟨src.go i θ' S' H' hlt e'.n m' hh, fun τ2 H2 => ∃ σ2 θ2 S2, RepE (gx X FA) θ2 H2 σ2 τ2 ∧ Sim (gx X FA) θ2 S2 H2 ∧ Ext (gx X FA) θ1 H1 θ2 H2 ∧ PostS (gx X FA) W θ H ((frRun hs (frM tg' m1) (xs.drop (i + 1)) σ2 S2).unl u) D, fun τ2 H2 q => ⟨_, by omega, rfl, hlt, q⟩, fun x H'' y => ?_⟩
      obtain ⟨e2, m2, d, hd, r2⟩ := src.yld i θ' S' H' x H'' hlt e'.n m' hh y
      rw [List.drop_eq_getElem_cons hlt, frRun, if_pos hh] at h'
      have ed : xs[i] = d := by rw [List.getElem?_eq_getElem hlt] at hd; exact Option.some.inj hd
      rw [ed] at h'
      unfold frM at h'
      cases eb : bindTg tg' d σ' with
      | none => simp only [eb] at h'; exact h'.elim
      | some σ1 =>
        simp only [eb] at h'
        refine ⟨θ', d, σ', σ1, rE'.ext e2, r2, eb, fun τ2 rE2 _ => ⟨σ1, θ', S', rE2, m2, ?_⟩⟩
        have eo2 := eo.trans e2
        revert h'
        cases m1 σ1 S' with
        | nx σ2 S2 => exact fun h θ2 H2 τ2 e3 m3 r3 => ⟨σ2, θ2, S2, r3, m3, (e'.trans e2).trans e3, h⟩
        | ct σ2 S2 => exact fun h θ2 H2 τ2 e3 m3 r3 => ⟨σ2, θ2, S2, r3, m3, (e'.trans e2).trans e3, h⟩
        | bk σ2 S2 =>
          intro h θ2 H2 τ2 e3 m3 r3
          simp only [Sr.unl] at h
          split at h
          · rename_i S3 hu
            exact unl_step m3 (eo2.trans e3) ((lk.ext e').ext (e2.trans e3)) hu fun H3 x1 x2 x3 _ => h θ2 H3 τ2 x1 x2 (r3.ext0 x3)
          · exact h.elim
        | rt v S2 =>
          intro h θ2 H2 w e3 m3 r3
          simp only [Sr.unl] at h
          split at h
          · rename_i S3 hu
            exact unl_step m3 (eo2.trans e3) ((lk.ext e').ext (e2.trans e3)) hu fun H3 x1 x2 x3 _ => h θ2 H3 w x1 x2 (r3.ext0 x3)
          · exact h.elim
        | ex x σ2 S2 =>
          intro h θ2 H2 e3 m3
          simp only [Sr.unl] at h
          split at h
          · rename_i S3 hu
            exact hW x θ θ2 H H2 S2 S3 u m3 (eo2.trans e3) ((lk.ext e').ext (e2.trans e3)) hu h
          · exact h.elim
        | no => exact fun h => h
    · have en : i = xs.length := by omega
      subst en
      rw [List.drop_length, frRun, if_pos hh] at h'
      refine .inl ⟨src.stop θ' S' H' e'.n m' hh, ?_⟩
      simp only [Sr.unl] at h'
      split at h'
      · rename_i S3 hu
        exact unl_step m' eo (lk.ext e') hu fun H3 x1 x2 x3 _ => h' θ' H3 τ' x1 x2 (rE'.ext0 x3)
      · exact h'.elim
end
end Nog

set_option Elab.async false
set_option linter.all false
set_option maxRecDepth 100000
set_option maxHeartbeats 1000000
/-! list comprehensions -/
namespace Nog
open PySem L2 PyProof.Rows
section
variable {X : Cx} {FA : Nat → Option Addr} {W : WX'} {pos : Pos} {a b c e : Expr} {θ θ' : List Addr} {H H' : Hp}
/-- no exceptions wanted -/
abbrev WF : WX' := fun _ _ _ _ => False
/-- a part of a walk's turn, then the rest, then unlocking -/
theorem unl_bind {α β γ δ ε : Type} {RA : List Addr → Hp → α → ε → Prop} {R : List Addr → Hp → γ → δ → Prop} {A : Rs α} {B : α → Sto → Rs β} {K : β → Sto → Rs γ} {u : Option (Nat × List (D × D))} {Q : δ → Hp → Prop}
    (h : PostR (gx X FA) W θ H R (((A.bind B).unl u).calm.bind K) Q) :
    PostR (gx X FA) WF θ' H' RA A (fun b H1 => ∃ a θ1 S1, A = .ok a S1 ∧ Ext (gx X FA) θ' H' θ1 H1 ∧ Sim (gx X FA) θ1 S1 H1 ∧ RA θ1 H1 a b ∧ PostR (gx X FA) W θ H R (((B a S1).unl u).calm.bind K) Q) := by
  cases A with
  | ok a S => exact fun θ1 H1 b e m q => ⟨a, θ1, S, rfl, e, m, q, h⟩
  | ex x S =>
    simp only [Rs.bind, Rs.unl] at h
    cases hu : unl u S with
    | none => simp only [hu] at h; exact h.elim
    | some S3 => simp only [hu] at h; exact h.elim
  | no => exact h
/-- the new list of a comprehension is written: nobody else's -/
theorem Ext0.lst {G : Gx} {θ : List Addr} {H : Hp} {D : Addr} {vs : List V} {o : HO} (h1 : H D = some (.lst vs)) : Ext0 G θ H θ (upd H D o) where
  pre := fun _ _ h => h
  tp := fun b vs h => SqT.upd h fun v ev q => by
    rw [h1] at ev
    cases ev
    rcases q with q | ⟨ob, q⟩ <;> cases q
  fz := fun b vs h => SqF.upd h fun v ev q => by
    rw [h1] at ev
    cases ev
    obtain ⟨ob, q⟩ := q
    cases q
theorem Ext.own {G : Gx} {θ1 θ5 : List Addr} {H1 H4 : Hp} {D : Addr} {vs : List V} {o : HO} (e : Ext G θ1 H1 θ5 H4) (h0 : H1 D = none) (h1 : H4 D = some (.lst vs)) : Ext G θ1 H1 θ5 (upd H4 D o) where
  pre := e.pre
  tp := fun b vs h => (Ext0.lst (G := G) (θ := θ5) h1).tp b vs (e.tp b vs h)
  fz := fun b vs h => (Ext0.lst (G := G) (θ := θ5) h1).fz b vs (e.fz b vs h)
  fr := fun b v h n => by rw [upd_ne (ne_of_none h h0)]; exact e.fr b v h n
  nw := e.nw
  up := fun b h => by
    by_cases z : b = D
    · rw [z]; exact h0
    · rw [upd_ne z] at h; exact e.up b h
  fx := fun b u v h => by rw [upd_ne (ne_of_none h h0)]; exact e.fx b u v h
theorem Sim.own {G : Gx} {θ : List Addr} {S : Sto} {H : Hp} {D : Addr} {o : HO} (m : Sim G θ S H) (hD : D ∉ θ) (e : Ext0 G θ H θ (upd H D o)) : Sim G θ S (upd H D o) :=
  ⟨m.len, m.nd, fun l a ob h1 h2 => (m.ob l a ob h1 h2).ext0 e fun u hu => by rw [upd_ne (fun z => hD (by rw [← z]; exact mem_ix.mpr ⟨l, h1⟩))]; exact hu⟩
/-- tests of a clause -/
def tTs (G : Gx) (W : WX') (m : Env → Sto → Rs Bool) : TT := fun τ H Q => ∃ σ θ S, RepE G θ H σ τ ∧ Sim G θ S H ∧ PostR G W θ H (fun _ _ a b => a = b) (m σ S) Q
theorem PTs.imp {X : Cx} {es : List Expr} {t t' : TT} (h : PTs X es t) (f : ∀ σ H Q, t' σ H Q → t σ H Q) : PTs X es t' := ⟨fun pins s σ H Q I q => h.run pins s σ H Q I (f σ H Q q)⟩
theorem sTs_nil : PTs X [] (tTs (gx X FA) W fun _ S => .ok true S) := PTs.imp pts_nil fun τ H Q ⟨σ, θ, S, rE, m, h⟩ => h θ H true .refl m rfl
theorem sTs_one {mc : Env → Sto → Rs Pv} (h : PT X c (tT (gx X FA) W mc)) : PTs X [c] (tTs (gx X FA) W (truM mc)) := pts_one h
def lcF (own : List Nat) (tg : Tg) (mi : Env → Sto → Rs Bool) (me : Env → Sto → Rs Pv) (σ : Env) : D → Sto → Rs (Option D) := fun x S => match bindTg tg x (wipe σ own) with
        | some σ1 => (mi σ1 S).bind fun b S2 => if b then (me σ1 S2).bind fun r S3 => (r.toVal S3).bind fun y S4 => .ok (some y) S4 else .ok none S2
        | none => .no
def lcM (own : List Nat) (ms : Env → Sto → Rs SrcR) (tg : Tg) (mi : Env → Sto → Rs Bool) (me : Env → Sto → Rs Pv) (σ : Env) (S : Sto) : Rs Pv :=
  (ms σ S).bind fun a S1 => ((lcRun a.2.1 (lcF own tg mi me σ) a.1 S1).unl a.2.2).calm.bind fun ys S2 => .ok (.fresh ys) S2
/-- what a list comprehension's turns reach: its reading by the evaluator -/
theorem lc_read {own : List (Str × Nat)} {ms : Env → Sto → Rs SrcR} {tg : Tg} {mi : Env → Sto → Rs Bool} {me : Env → Sto → Rs Pv} {τ : L2.St} {Q : VK} (ho : ∀ i ∈ tg.slots, i ∈ own.map (·.2))
    (h : tE (gx X FA) W (lcM (own.map (·.2)) ms tg mi me) τ H Q) :
    tLc (tI X FA W ms) (gT (gx X FA) tg) (tTs (gx X FA) WF mi) (tE (gx X FA) WF me) (own.map (·.2)) τ H fun v => UQ X (Q v) := by
  obtain ⟨σ, θ, S, rE, m, h⟩ := h
  refine ⟨σ, θ, S, rE, m, (PostR.bind (R := SR X FA H) (Post.iff.mp h)).mono fun J H1 ⟨⟨xs, hs, u⟩, θ1, S1, _, e1, m1, ⟨src, lk⟩, h1⟩ D hD => ?_⟩
  dsimp only at src lk h1
  have hD0 : H D = none := e1.up D hD
  have eD : Ext (gx X FA) θ1 H1 θ1 (upd H1 D (.lst [])) := .new hD
  refine ⟨fun i k H' => k = xs.length - i ∧ i ≤ xs.length ∧ ∃ θ' S' ds vs, RepE (gx X FA) θ' H' σ τ ∧ Sim (gx X FA) θ' S' H' ∧ Ext (gx X FA) θ1 H1 θ' H' ∧ H' D = some (.lst vs) ∧ D ∉ θ' ∧ RepL (gx X FA) θ' H' ds vs ∧ vs.length ≤ i ∧
      PostR (gx X FA) W θ H (RepP (gx X FA) H) (((lcRun hs (lcF (own.map (·.2)) tg mi me σ) (xs.drop i) S').unl u).calm.bind fun ys S2 => .ok (.fresh (ds ++ ys)) S2) Q,
    ⟨xs.length, by simp, Nat.zero_le _, θ1, S1, [], [], (rE.ext e1).ext eD, m1.new hD, eD, upd_same, m1.free hD, .nil, Nat.le_refl _, h1⟩, ?_⟩
  rintro i k H' ⟨rfl, hi, θ', S', ds, vs, rE', m', e', d1, d2, d3, d4, h'⟩
  have hh : heldOk hs S' = true := by
    cases q : heldOk hs S' with
    | true => rfl
    | false =>
      have : lcRun hs (lcF (own.map (·.2)) tg mi me σ) (xs.drop i) S' = .no := by
        cases xs.drop i <;> simp [lcRun, q]
      rw [this] at h'
      exact h'.elim
  have eo := e1.trans e'
  by_cases hlt : i < xs.length
  · refine .inr ⟨src.go i θ' S' H' hlt e'.n m' hh, fun H2 => ∃ θ2 S2 ds2 vs2, RepE (gx X FA) θ2 H2 σ τ ∧ Sim (gx X FA) θ2 S2 H2 ∧ Ext (gx X FA) θ1 H1 θ2 H2 ∧ H2 D = some (.lst vs2) ∧ D ∉ θ2 ∧ RepL (gx X FA) θ2 H2 ds2 vs2 ∧ vs2.length ≤ i + 1 ∧
        PostR (gx X FA) W θ H (RepP (gx X FA) H) (((lcRun hs (lcF (own.map (·.2)) tg mi me σ) (xs.drop (i + 1)) S2).unl u).calm.bind fun ys S2 => .ok (.fresh (ds2 ++ ys)) S2) Q, fun H2 q => ⟨_, by omega, rfl, hlt, q⟩, fun x H'' y => ?_⟩
    obtain ⟨e2, m2, d, hd, r2⟩ := src.yld i θ' S' H' x H'' hlt e'.n m' hh y
    rw [List.drop_eq_getElem_cons hlt, lcRun, if_pos hh] at h'
    have ed : xs[i] = d := by rw [List.getElem?_eq_getElem hlt] at hd; exact Option.some.inj hd
    rw [ed] at h'
    cases eb : bindTg tg d (wipe σ (own.map (·.2))) with
    | none =>
      have : lcF (own.map (·.2)) tg mi me σ d S' = .no := by unfold lcF; rw [eb]
      rw [this] at h'
      exact h'.elim
    | some σ1 =>
      have ef : lcF (own.map (·.2)) tg mi me σ d S' = (mi σ1 S').bind fun b S2 => if b then (me σ1 S2).bind fun r S3 => (r.toVal S3).bind fun y S4 => .ok (some y) S4 else .ok none S2 := by unfold lcF; rw [eb]
      rw [ef, Rs.bind_assoc] at h'
      have eo2 := eo.trans e2
      have lk2 := (lk.ext e').ext e2
      refine ⟨θ', d, wipe σ (own.map (·.2)), σ1, (rE'.ext e2).wipe _, r2, eb, fun τ2 rE2 hw => ⟨(hw _ ho).trans ?_, σ1, θ', S', rE2, m2, ?_⟩⟩
      · apply List.ext_getElem?
        intro j
        rw [wipe_get, wipe_get]
        by_cases hj : j ∈ own.map (·.2)
        · rw [if_pos hj, if_pos hj]
          cases τ[j]? <;> rfl
        · rw [if_neg hj, if_neg hj]
      · refine (unl_bind (RA := fun _ _ a b => a = b) h').mono fun bb H3 ⟨bb', θ3, S3, _, e3, m3, eq, h3⟩ => ?_
        subst eq
        have d1' : H3 D = some (.lst vs) := e3.fr D _ (e2.fr D _ d1 d2) d2
        have d2' : D ∉ θ3 := fun z => (e3.nw D z).elim d2 fun q => by rw [e2.fr D _ d1 d2] at q; cases q
        cases bb' with
        | false =>
          rw [if_neg Bool.false_ne_true]
          have h3 : PostR (gx X FA) W θ H (RepP (gx X FA) H) (((lcRun hs (lcF (own.map (·.2)) tg mi me σ) (xs.drop (i + 1)) S3).bind fun ys S2 => .ok ys S2).unl u |>.calm.bind fun ys S2 => .ok (.fresh (ds ++ ys)) S2) Q := h3
          have eq : ((lcRun hs (lcF (own.map (·.2)) tg mi me σ) (xs.drop (i + 1)) S3).bind fun ys S2 => .ok ys S2) = lcRun hs (lcF (own.map (·.2)) tg mi me σ) (xs.drop (i + 1)) S3 := by
            cases lcRun hs (lcF (own.map (·.2)) tg mi me σ) (xs.drop (i + 1)) S3 <;> rfl
          rw [eq] at h3
          exact ⟨θ3, S3, ds, vs, (rE'.ext e2).ext e3, m3, (e'.trans e2).trans e3, d1', d2', (d3.ext e2).ext e3, by omega, h3⟩
        | true =>
          rw [if_pos rfl]
          have h3 : PostR (gx X FA) W θ H (RepP (gx X FA) H) (((((me σ1 S3).bind fun r S3 => (r.toVal S3).bind fun y S4 => .ok (some y) S4).bind fun y S1 => (lcRun hs (lcF (own.map (·.2)) tg mi me σ) (xs.drop (i + 1)) S1).bind fun ys S2 => .ok (match y with | some y => y :: ys | none => ys) S2).unl u).calm.bind fun ys S2 => .ok (.fresh (ds ++ ys)) S2) Q := h3
          rw [Rs.bind_assoc] at h3
          refine ⟨σ1, θ3, S3, rE2.ext e3, m3, Post.iff.mpr ((unl_bind (RA := RepP (gx X FA) H3) h3).mono fun v H4 ⟨p, θ4, S4, _, e4, m4, r4, h4⟩ => ?_)⟩
          rcases toVal_ok p S4 with ⟨d', S5, t⟩ | t
          · rw [t] at h4
            obtain ⟨θ5, e5, m5, r5⟩ := toVal_rep e4 m4 r4 t
            have h4 : PostR (gx X FA) W θ H (RepP (gx X FA) H) (((lcRun hs (lcF (own.map (·.2)) tg mi me σ) (xs.drop (i + 1)) S5).bind fun ys S2 => .ok (d' :: ys) S2).unl u |>.calm.bind fun ys S2 => .ok (.fresh (ds ++ ys)) S2) Q := h4
            have d1'' : H4 D = some (.lst vs) := e5.fr D _ d1' d2'
            have d2'' : D ∉ θ5 := fun z => (e5.nw D z).elim d2' fun q => by rw [d1'] at q; cases q
            have e0 : Ext0 (gx X FA) θ5 H4 θ5 (upd H4 D (.lst (vs ++ [v]))) := Ext0.lst d1''
            have eb5 := ((e'.trans e2).trans e3).trans e5
            refine ⟨vs, d1'', by have := src.len; omega, θ5, S5, ds ++ [d'], vs ++ [v], (((rE'.ext e2).ext e3).ext e5).ext0 e0, m5.own d2'' e0, eb5.own hD d1'', upd_same, d2'', ((((d3.ext e2).ext e3).ext e5).append (.cons r5 .nil)).ext0 e0, by simp; omega, ?_⟩
            revert h4
            cases lcRun hs (lcF (own.map (·.2)) tg mi me σ) (xs.drop (i + 1)) S5 with
            | ok ys S6 =>
              show PostR (gx X FA) W θ H (RepP (gx X FA) H) (((Rs.ok (d' :: ys) S6).unl u).calm.bind fun ys S2 => .ok (.fresh (ds ++ ys)) S2) Q → PostR (gx X FA) W θ H (RepP (gx X FA) H) (((Rs.ok ys S6).unl u).calm.bind fun ys S2 => .ok (.fresh (ds ++ [d'] ++ ys)) S2) Q
              have ea : ds ++ [d'] ++ ys = ds ++ d' :: ys := by simp
              simp only [Rs.unl]
              cases unl u S6 with
              | none => exact fun h => h
              | some S7 =>
                show PostR (gx X FA) W θ H (RepP (gx X FA) H) (.ok (.fresh (ds ++ d' :: ys)) S7) Q → PostR (gx X FA) W θ H (RepP (gx X FA) H) (.ok (.fresh (ds ++ [d'] ++ ys)) S7) Q
                rw [ea]
                exact fun h => h
            | ex x S6 =>
              show PostR (gx X FA) W θ H (RepP (gx X FA) H) (((Rs.ex x S6 : Rs (List Nog.D)).unl u).calm.bind fun ys S2 => .ok (.fresh (ds ++ ys)) S2) Q → PostR (gx X FA) W θ H (RepP (gx X FA) H) (((Rs.ex x S6 : Rs (List Nog.D)).unl u).calm.bind fun ys S2 => .ok (.fresh (ds ++ [d'] ++ ys)) S2) Q
              simp only [Rs.unl]
              cases unl u S6 with
              | none => exact fun h => h
              | some S7 => exact fun h => h
            | no => exact fun h => h
          · rw [t] at h4
            exact h4.elim
  · have en : i = xs.length := by omega
    subst en
    rw [List.drop_length, lcRun, if_pos hh] at h'
    refine .inl ⟨src.stop θ' S' H' e'.n m' hh, ?_⟩
    simp only [Rs.unl] at h'
    cases hu : unl u S' with
    | none => simp only [hu] at h'; exact h'.elim
    | some S3 =>
      simp only [hu] at h'
      refine unl_step m' eo (lk.ext e') hu fun H3 x1 x2 x3 x4 => h' θ' H3 (.ref D) x1 x2 ⟨D, vs, rfl, ?_, ?_, d2, hD0⟩
      · rw [x4 D d2]; exact d1
      · rw [List.append_nil]; exact d3.ext0 x3
theorem sE_lc {elt tge iter : Expr} {ifs : List Expr} {scope : Scope} {own : List (Str × Nat)} {ms : Env → Sto → Rs SrcR} {tg : Tg} {mi : Env → Sto → Rs Bool} {me : Env → Sto → Rs Pv} (hc : X.calm = true) (hN : X.N.Nodup)
    (ho : ∀ i ∈ tg.slots, i ∈ own.map (·.2)) (hi : PI X tge iter (tI X FA W ms)) (ok : BlkOk X.N X.env.scope scope own) (hs : isPlainE iter = true)
    (hg : ∀ (s : Shared) (H : Hp) (C : Addr) (cl : List (Str × Addr)) (fp : List Addr), PG (X.blk s H scope (compEnvC scope cl C X.env) fp) tge (gT (gx X FA) tg))
    (ht : ∀ (s : Shared) (H : Hp) (C : Addr) (cl : List (Str × Addr)) (fp : List Addr), PTs (X.blk s H scope (compEnvC scope cl C X.env) fp) ifs (tTs (gx X FA) WF mi))
    (he : ∀ (s : Shared) (H : Hp) (C : Addr) (cl : List (Str × Addr)) (fp : List Addr), PE (X.blk s H scope (compEnvC scope cl C X.env) fp) elt (tE (gx X FA) WF me)) :
    PE X (.ListComp elt [⟨tge, iter, ifs, 0⟩] scope pos) (tE (gx X FA) W (lcM (own.map (·.2)) ms tg mi me)) :=
  PE.imp (pe_unl (pe_lc hc hN hi ok hg ht he (fold_plain hs))) fun τ H Q h => lc_read ho h
/-- y = [..], the list stored within -/
theorem sS_setLc {i : Nat} {y : Str} {py spos : Pos} {elt tge iter : Expr} {ifs : List Expr} {scope : Scope} {own : List (Str × Nat)} {ms : Env → Sto → Rs SrcR} {tg : Tg} {mi : Env → Sto → Rs Bool} {me : Env → Sto → Rs Pv} (hc : X.calm = true) (hN : X.N.Nodup)
    (hy : X.N[i]? = some y) (hyl : X.env.scope.names.lookup y = some .local)
    (hsw : swapsWith (.ListComp elt [⟨tge, iter, ifs, 0⟩] scope pos) (some (.Name y py)) spos.line X.env = pure true)
    (ho : ∀ i ∈ tg.slots, i ∈ own.map (·.2)) (hi : PI X tge iter (tI X FA W ms)) (ok : BlkOk X.N X.env.scope scope own) (hs : isPlainE iter = true)
    (hg : ∀ (s : Shared) (H : Hp) (C : Addr) (cl : List (Str × Addr)) (fp : List Addr), PG (X.blk s H scope (compEnvC scope cl C X.env) fp) tge (gT (gx X FA) tg))
    (ht : ∀ (s : Shared) (H : Hp) (C : Addr) (cl : List (Str × Addr)) (fp : List Addr), PTs (X.blk s H scope (compEnvC scope cl C X.env) fp) ifs (tTs (gx X FA) WF mi))
    (he : ∀ (s : Shared) (H : Hp) (C : Addr) (cl : List (Str × Addr)) (fp : List Addr), PE (X.blk s H scope (compEnvC scope cl C X.env) fp) elt (tE (gx X FA) WF me)) :
    PS X (.Assign [.Name y py] (.ListComp elt [⟨tge, iter, ifs, 0⟩] scope pos) spos) (tS (gx X FA) W fun σ S => (lcM (own.map (·.2)) ms tg mi me σ S).st σ fun p S1 => (p.toVal S1).st σ fun d S2 => .nx (σ.set i (some d)) S2) :=
  PS.imp (ps_unl (ps_setLc hc hN hy hyl hsw hi ok hg ht he (fold_plain hs))) fun D τ H ⟨σ, θ, S, rE, m, h⟩ => by
    show tLc (tI X FA W ms) (gT (gx X FA) tg) (tTs (gx X FA) WF mi) (tE (gx X FA) WF me) (own.map (·.2)) τ H fun v H1 => UQ X (fun H2 => D.nx (τ.set i (some v)) H2) H1
    refine lc_read (Q := fun v H1 => D.nx (τ.set i (some v)) H1) ho ⟨σ, θ, S, rE, m, h.val.mono fun v H1 ⟨d, θ2, S2, e2, m2, r2, h2⟩ => h2 θ2 H1 _ e2 m2 ((rE.ext e2).set i r2)⟩
end
end Nog

set_option Elab.async false
set_option linter.all false
set_option maxRecDepth 100000
set_option maxHeartbeats 2000000
/-! list comprehensions over two sources -/
namespace Nog
open PySem L2 PyProof.Rows
/-- the second source: no dict is locked for it -/
abbrev SrcR0 := List D × List (Nat × O)
def src0M (p : Pv) (S : Sto) : Rs SrcR0 := match p.lock S with
  | some _ => .no
  | none => match p.items S with
    | some xs => .ok (xs, p.held S) S
    | none => .no
def SR0 (G : Gx) (H : Hp) : List Addr → Hp → SrcR0 → It → Prop := fun θ' H' a J => Srcs G H θ' H' J a.1 a.2
def tI0 (G : Gx) (W : WX') (m : Env → Sto → Rs SrcR0) : TI := fun τ H R => ∃ σ θ S, RepE G θ H σ τ ∧ Sim G θ S H ∧ PostR G W θ H (SR0 G H) (m σ S) R
/-- from a source whose lock is told -/
def noLock (r : Rs SrcR) : Rs SrcR0 := r.bind fun a S => match a.2.2 with
  | some _ => .no
  | none => .ok (a.1, a.2.1) S
theorem noLock_src (p : Pv) (S : Sto) : noLock (srcM p S) = src0M p S := by
  unfold noLock srcM src0M
  cases h : p.items S with
  | none => cases p.lock S <;> rfl
  | some xs =>
    cases k : p.lock S with
    | some u => simp [Rs.bind]
    | none =>
      have : p.lockS S = S := by unfold Pv.lockS; rw [k]
      simp [Rs.bind, this]
section
variable {X : Cx} {FA : Nat → Option Addr} {W : WX'} {pos : Pos} {a b c e : Expr} {θ θ' : List Addr} {H H' : Hp}
theorem sI_0 {tg e : Expr} {ms : Env → Sto → Rs SrcR} (h : PI X tg e (tI X FA W ms)) : PI X tg e (tI0 (gx X FA) W fun σ S => noLock (ms σ S)) :=
  PI.imp h fun τ H R ⟨σ, θ, S, rE, m, q⟩ => ⟨σ, θ, S, rE, m, (PostR.bind (R := SR X FA H) q).mono fun J H1 ⟨a, θ1, S1, _, e1, m1, r1, h1⟩ => by
    cases ha : a.2.2 with
    | some u => simp only [ha] at h1; exact h1.elim
    | none =>
      simp only [ha] at h1
      exact h1 θ1 H1 J e1 m1 r1.1⟩
/-- the second source's turns, for one item of the first -/
def lcG (tg2 : Tg) (mi2 : Env → Sto → Rs Bool) (me : Env → Sto → Rs Pv) (σ1 : Env) : D → Sto → Rs (Option D) := fun z S => match bindTg tg2 z (wipe σ1 tg2.slots) with
                | some σ2 => (mi2 σ2 S).bind fun b S4 => if b then (me σ2 S4).bind fun r S5 => (r.toVal S5).bind fun y S6 => .ok (some y) S6 else .ok none S4
                | none => .no
def lcF2 (own : List Nat) (tg : Tg) (mi : Env → Sto → Rs Bool) (ms2 : Env → Sto → Rs SrcR0) (tg2 : Tg) (mi2 : Env → Sto → Rs Bool) (me : Env → Sto → Rs Pv) (σ : Env) : D → Sto → Rs (List D) := fun x S => match bindTg tg x (wipe σ own) with
        | some σ1 => (mi σ1 S).bind fun b S2 => if b then (ms2 σ1 S2).bind fun a S3 => lcRun a.2 (lcG tg2 mi2 me σ1) a.1 S3 else .ok [] S2
        | none => .no
def fitM (ys : List D) (S2 : Sto) : Rs Pv := if fits ys then .ok (.fresh ys) S2 else .no
def lcM2 (own : List Nat) (ms : Env → Sto → Rs SrcR) (tg : Tg) (mi : Env → Sto → Rs Bool) (ms2 : Env → Sto → Rs SrcR0) (tg2 : Tg) (mi2 : Env → Sto → Rs Bool) (me : Env → Sto → Rs Pv) (σ : Env) (S : Sto) : Rs Pv :=
  (ms σ S).bind fun a S1 => ((lcRun2 a.2.1 (lcF2 own tg mi ms2 tg2 mi2 me σ) a.1 S1).unl a.2.2).calm.bind fitM
/-- what is still to come: the list ds ++ .., at last -/
def Rest (X : Cx) (FA : Nat → Option Addr) (W : WX') (θ : List Addr) (H : Hp) (u : Option (Nat × List (D × D))) (Q : VK) (ds : List D) (r : Rs (List D)) : Prop := PostR (gx X FA) W θ H (RepP (gx X FA) H) ((r.unl u).calm.bind fun ys S2 => fitM (ds ++ ys) S2) Q
theorem Rest.fits {u : Option (Nat × List (D × D))} {Q : VK} {ds : List D} {r : Rs (List D)} (h : Rest X FA W θ H u Q ds r) : ∃ ys S, r = .ok ys S ∧ Nog.fits (ds ++ ys) = true := by
  unfold Rest at h
  cases r with
  | no => exact h.elim
  | ex x S =>
    simp only [Rs.unl] at h
    cases hu : unl u S with
    | none => simp only [hu] at h; exact h.elim
    | some S3 => simp only [hu] at h; exact h.elim
  | ok ys S =>
    refine ⟨ys, S, rfl, ?_⟩
    simp only [Rs.unl] at h
    cases hu : unl u S with
    | none => simp only [hu] at h; exact h.elim
    | some S3 =>
      simp only [hu] at h
      replace h : PostR (gx X FA) W θ H (RepP (gx X FA) H) (fitM (ds ++ ys) S3) Q := h
      unfold fitM at h
      split at h
      · assumption
      · exact h.elim
theorem Rest.bind {α ε : Type} {RA : List Addr → Hp → α → ε → Prop} {A : Rs α} {B : α → Sto → Rs (List D)} {u : Option (Nat × List (D × D))} {Q : VK} {ds : List D} (h : Rest X FA W θ H u Q ds (A.bind B)) :
    PostR (gx X FA) WF θ' H' RA A (fun b H1 => ∃ a θ1 S1, A = .ok a S1 ∧ Ext (gx X FA) θ' H' θ1 H1 ∧ Sim (gx X FA) θ1 S1 H1 ∧ RA θ1 H1 a b ∧ Rest X FA W θ H u Q ds (B a S1)) := unl_bind h
/-- items that have come are put behind those that were there -/
theorem Rest.push {u : Option (Nat × List (D × D))} {Q : VK} {ds zs : List D} {r : Rs (List D)} (h : Rest X FA W θ H u Q ds (r.bind fun ys S2 => .ok (zs ++ ys) S2)) : Rest X FA W θ H u Q (ds ++ zs) r := by
  unfold Rest at h ⊢
  cases r with
  | no => exact h
  | ex x S =>
    simp only [Rs.bind, Rs.unl] at h ⊢
    cases hu : unl u S with
    | none => simp only [hu] at h; exact h.elim
    | some S3 => simp only [hu] at h; exact h.elim
  | ok ys S =>
    simp only [Rs.bind, Rs.unl] at h ⊢
    cases hu : unl u S with
    | none => simp only [hu] at h; exact h.elim
    | some S3 =>
      simp only [hu] at h ⊢
      have e : ds ++ zs ++ ys = ds ++ (zs ++ ys) := by simp
      show PostR (gx X FA) W θ H (RepP (gx X FA) H) (fitM (ds ++ zs ++ ys) S3) Q
      rw [e]
      exact h
theorem Rest.congr {u : Option (Nat × List (D × D))} {Q : VK} {ds : List D} {r r' : Rs (List D)} (h : Rest X FA W θ H u Q ds r) (e : r = r') : Rest X FA W θ H u Q ds r' := e ▸ h
theorem ExtN.trans {G : Gx} {H₀ H H1 H2 : Hp} {θ θ1 θ2 : List Addr} (a : ExtN G H₀ θ H θ1 H1) (b : Ext G θ1 H1 θ2 H2) : ExtN G H₀ θ H θ2 H2 where
  pre := fun l x h => b.pre l x (a.pre l x h)
  tp := fun c vs h => b.tp c vs (a.tp c vs h)
  fz := fun c vs h => b.fz c vs (a.fz c vs h)
  fr := fun c o h0 h n => b.fr c o (a.fr c o h0 h n) fun z => (a.nw c z).elim n fun q => by rw [q] at h; cases h
  nw := fun c h => (b.nw c h).elim (a.nw c) fun q => .inr (a.up c q)
  up := fun c h => a.up c (b.up c h)
  fx := fun c o u h => b.fx c o u (a.fx c o u h)
theorem ExtN.own {G : Gx} {H₀ H H4 : Hp} {θ θ5 : List Addr} {D : Addr} {vs vs0 : List V} {o : HO} (e : ExtN G H₀ θ H θ5 H4) (h0 : H₀ D = some (.lst vs0)) (h1 : H4 D = some (.lst vs)) (hx : H D ≠ none) (hf : ∀ o u, H D ≠ some (.frz o u)) : ExtN G H₀ θ H θ5 (upd H4 D o) where
  pre := e.pre
  tp := fun b vs h => (Ext0.lst (G := G) (θ := θ5) h1).tp b vs (e.tp b vs h)
  fz := fun b vs h => (Ext0.lst (G := G) (θ := θ5) h1).fz b vs (e.fz b vs h)
  fr := fun b v hn h n => by rw [upd_ne (fun z => by rw [z, h0] at hn; cases hn)]; exact e.fr b v hn h n
  nw := e.nw
  up := fun b h => by
    by_cases z : b = D
    · rw [z, upd_same] at h; cases h
    · rw [upd_ne z] at h; exact e.up b h
  fx := fun b u v h => by rw [upd_ne (fun z => by rw [z] at h; exact hf _ _ h)]; exact e.fx b u v h
/-- the new list at D, what it holds -/
def Grow (X : Cx) (FA : Nat → Option Addr) (σ : Env) (τ : L2.St) (θ1 : List Addr) (H1 : Hp) (D : Addr) (θ' : List Addr) (S' : Sto) (ds : List Nog.D) (H' : Hp) : Prop :=
  ∃ vs, RepE (gx X FA) θ' H' σ τ ∧ Sim (gx X FA) θ' S' H' ∧ Ext (gx X FA) θ1 H1 θ' H' ∧ H' D = some (.lst vs) ∧ D ∉ θ' ∧ RepL (gx X FA) θ' H' ds vs
theorem Grow.step {σ : Env} {τ : L2.St} {θ1 : List Addr} {H1 : Hp} {D : Addr} {θ' θ2 : List Addr} {S' S2 : Sto} {ds : List Nog.D} {H' H2 : Hp} (g : Grow X FA σ τ θ1 H1 D θ' S' ds H') (e : Ext (gx X FA) θ' H' θ2 H2) (m : Sim (gx X FA) θ2 S2 H2) : Grow X FA σ τ θ1 H1 D θ2 S2 ds H2 := by
  obtain ⟨vs, g1, g2, g3, g4, g5, g6⟩ := g
  exact ⟨vs, g1.ext e, m, g3.trans e, e.fr D _ g4 g5, fun z => (e.nw D z).elim g5 (fun q => by rw [g4] at q; cases q), g6.ext e⟩
theorem Grow.app {σ : Env} {τ : L2.St} {θ1 : List Addr} {H1 : Hp} {D : Addr} {θ' : List Addr} {S' : Sto} {ds : List Nog.D} {H' : Hp} {d : Nog.D} {v : V} (hD : H1 D = none) (g : Grow X FA σ τ θ1 H1 D θ' S' ds H') (r : Rep (gx X FA) θ' H' d v) :
    ∃ vs, H' D = some (.lst vs) ∧ vs.length = ds.length ∧ Grow X FA σ τ θ1 H1 D θ' S' (ds ++ [d]) (upd H' D (.lst (vs ++ [v]))) := by
  obtain ⟨vs, g1, g2, g3, g4, g5, g6⟩ := g
  have e0 : Ext0 (gx X FA) θ' H' θ' (upd H' D (.lst (vs ++ [v]))) := Ext0.lst g4
  exact ⟨vs, g4, g6.length, vs ++ [v], g1.ext0 e0, g2.own g5 e0, g3.own hD g4, upd_same, g5, (g6.append (.cons r .nil)).ext0 e0⟩
theorem wipe2 (τ : L2.St) (vs : List Nat) : L2.wipe (L2.wipe τ vs) vs = L2.wipe τ vs := by
  apply List.ext_getElem?
  intro j
  rw [wipe_get, wipe_get]
  by_cases hj : j ∈ vs
  · rw [if_pos hj, if_pos hj]
    cases τ[j]? <;> rfl
  · rw [if_neg hj, if_neg hj]
theorem lc2_read {own : List (Str × Nat)} {ms : Env → Sto → Rs SrcR} {tg : Tg} {mi : Env → Sto → Rs Bool} {ms2 : Env → Sto → Rs SrcR0} {tg2 : Tg} {mi2 : Env → Sto → Rs Bool} {me : Env → Sto → Rs Pv} {τ : L2.St} {Q : VK} (ho : ∀ i ∈ tg.slots, i ∈ own.map (·.2))
    (h : tE (gx X FA) W (lcM2 (own.map (·.2)) ms tg mi ms2 tg2 mi2 me) τ H Q) :
    tLc2 (tI X FA W ms) (gT (gx X FA) tg) (tTs (gx X FA) WF mi) (tI0 (gx X FA) WF ms2) (gT (gx X FA) tg2) (tTs (gx X FA) WF mi2) (tE (gx X FA) WF me) (own.map (·.2)) tg2.slots τ H fun v => UQ X (Q v) := by
  obtain ⟨σ, θ, S, rE, m, h⟩ := h
  refine ⟨σ, θ, S, rE, m, (PostR.bind (R := SR X FA H) (Post.iff.mp h)).mono fun J H1 ⟨⟨xs, hs, u⟩, θ1, S1, _, e1, m1, ⟨src, lk⟩, h1⟩ D hD => ?_⟩
  dsimp only at src lk h1
  have hD0 : H D = none := e1.up D hD
  have eD : Ext (gx X FA) θ1 H1 θ1 (upd H1 D (.lst [])) := .new hD
  generalize hF : lcF2 (own.map (·.2)) tg mi ms2 tg2 mi2 me σ = F at h1
  refine ⟨fun i k H' => k = xs.length - i ∧ i ≤ xs.length ∧ ∃ θ' S' ds, Grow X FA σ τ θ1 H1 D θ' S' ds H' ∧ Rest X FA W θ H u Q ds (lcRun2 hs F (xs.drop i) S'),
    ⟨xs.length, by simp, Nat.zero_le _, θ1, S1, [], ⟨[], (rE.ext e1).ext eD, m1.new hD, eD, upd_same, m1.free hD, .nil⟩, h1⟩, ?_⟩
  rintro i k H' ⟨rfl, hi, θ', S', ds, g, h'⟩
  have hh : heldOk hs S' = true := by
    cases q : heldOk hs S' with
    | true => rfl
    | false =>
      have : lcRun2 hs F (xs.drop i) S' = .no := by cases xs.drop i <;> simp [lcRun2, q]
      rw [this] at h'
      exact h'.elim
  obtain ⟨_, _, m', e', _⟩ := id g
  by_cases hlt : i < xs.length
  · refine .inr ⟨src.go i θ' S' H' hlt e'.n m' hh, fun H2 => ∃ θ2 S2 ds2, Grow X FA σ τ θ1 H1 D θ2 S2 ds2 H2 ∧ Rest X FA W θ H u Q ds2 (lcRun2 hs F (xs.drop (i + 1)) S2), fun H2 q => ⟨_, by omega, rfl, hlt, q⟩, fun x H'' y => ?_⟩
    obtain ⟨e2, m2, d, hd, r2⟩ := src.yld i θ' S' H' x H'' hlt e'.n m' hh y
    rw [List.drop_eq_getElem_cons hlt, lcRun2, if_pos hh] at h'
    have ed : xs[i] = d := by rw [List.getElem?_eq_getElem hlt] at hd; exact Option.some.inj hd
    rw [ed] at h'
    have g2 := g.step e2 m2
    obtain ⟨_, rE2', _⟩ := id g2
    cases eb : bindTg tg d (wipe σ (own.map (·.2))) with
    | none =>
      have : F d S' = .no := by rw [← hF]; unfold lcF2; rw [eb]
      rw [this] at h'
      exact h'.elim
    | some σ1 =>
      have ef : F d S' = (mi σ1 S').bind fun b S2 => if b then (ms2 σ1 S2).bind fun a S3 => lcRun a.2 (lcG tg2 mi2 me σ1) a.1 S3 else .ok [] S2 := by rw [← hF]; unfold lcF2; rw [eb]
      rw [ef, Rs.bind_assoc] at h'
      refine ⟨θ', d, wipe σ (own.map (·.2)), σ1, rE2'.wipe _, r2, eb, fun τ2 rE2 hw => ⟨(hw _ ho).trans (wipe2 _ _), σ1, θ', S', rE2, m2, ?_⟩⟩
      refine (Rest.bind (RA := fun _ _ a b => a = b) h').mono fun bb H3 ⟨bb', θ3, S3, _, e3, m3, eq, h3⟩ => ?_
      subst eq
      have g3 := g2.step e3 m3
      cases bb' with
      | false =>
        rw [if_neg Bool.false_ne_true]
        refine ⟨θ3, S3, ds, g3, ?_⟩
        have := Rest.push (zs := []) (r := lcRun2 hs F (xs.drop (i + 1)) S3) h3
        rw [List.append_nil] at this
        exact this
      | true =>
        rw [if_pos rfl]
        have h3 : Rest X FA W θ H u Q ds (((ms2 σ1 S3).bind fun a S3 => lcRun a.2 (lcG tg2 mi2 me σ1) a.1 S3).bind fun y S1 => (lcRun2 hs F (xs.drop (i + 1)) S1).bind fun ys S2 => .ok (y ++ ys) S2) := h3
        rw [Rs.bind_assoc] at h3
        refine ⟨σ1, θ3, S3, rE2.ext e3, m3, (Rest.bind (RA := SR0 (gx X FA) H3) h3).mono fun J1 H4 ⟨⟨zs, hs2⟩, θ4, S4, _, e4, m4, src2, h4⟩ => ?_⟩
        dsimp only at src2 h4
        have src2 : Srcs (gx X FA) H3 θ4 H4 J1 zs hs2 := src2
        have g4 := g3.step e4 m4
        have rE4 := (rE2.ext e3).ext e4
        -- the second source's loop: what comes is put behind at once
        have key : ∀ (j : Nat) (ds' : List Nog.D) (S5 : Sto), Rest X FA W θ H u Q ds' ((lcRun hs2 (lcG tg2 mi2 me σ1) (zs.drop j) S5).bind fun y S1 => (lcRun2 hs F (xs.drop (i + 1)) S1).bind fun ys S2 => .ok (y ++ ys) S2) → heldOk hs2 S5 = true := by
          intro j ds' S5 h5
          cases q : heldOk hs2 S5 with
          | true => rfl
          | false =>
            have : lcRun hs2 (lcG tg2 mi2 me σ1) (zs.drop j) S5 = .no := by cases zs.drop j <;> simp [lcRun, q]
            rw [this] at h5
            exact h5.elim
        refine ⟨fun j k H5 => k = zs.length - j ∧ j ≤ zs.length ∧ ∃ θ5 S5 ds5, Grow X FA σ τ θ1 H1 D θ5 S5 ds5 H5 ∧ RepE (gx X FA) θ5 H5 σ1 τ2 ∧ ExtN (gx X FA) H3 θ4 H4 θ5 H5 ∧
            Rest X FA W θ H u Q ds5 ((lcRun hs2 (lcG tg2 mi2 me σ1) (zs.drop j) S5).bind fun y S1 => (lcRun2 hs F (xs.drop (i + 1)) S1).bind fun ys S2 => .ok (y ++ ys) S2), ⟨zs.length, by simp, Nat.zero_le _, θ4, S4, ds, g4, rE4, Ext.refl.n, h4⟩, ?_⟩
        rintro j k H5 ⟨rfl, hj, θ5, S5, ds5, g5, rE5, e5, h5⟩
        have hh2 := key j ds5 S5 h5
        obtain ⟨_, _, m5, _⟩ := id g5
        by_cases hlt2 : j < zs.length
        · refine .inr ⟨src2.go j θ5 S5 H5 hlt2 e5 m5 hh2, fun H6 => ∃ θ6 S6 ds6, Grow X FA σ τ θ1 H1 D θ6 S6 ds6 H6 ∧ RepE (gx X FA) θ6 H6 σ1 τ2 ∧ ExtN (gx X FA) H3 θ4 H4 θ6 H6 ∧
            Rest X FA W θ H u Q ds6 ((lcRun hs2 (lcG tg2 mi2 me σ1) (zs.drop (j + 1)) S6).bind fun y S1 => (lcRun2 hs F (xs.drop (i + 1)) S1).bind fun ys S2 => .ok (y ++ ys) S2), fun H6 q => ⟨_, by omega, rfl, hlt2, q⟩, fun x2 H6 y2 => ?_⟩
          obtain ⟨e6, m6, d2, hd2, r6⟩ := src2.yld j θ5 S5 H5 x2 H6 hlt2 e5 m5 hh2 y2
          rw [List.drop_eq_getElem_cons hlt2, lcRun, if_pos hh2] at h5
          have ed2 : zs[j] = d2 := by rw [List.getElem?_eq_getElem hlt2] at hd2; exact Option.some.inj hd2
          rw [ed2] at h5
          have g6 := g5.step e6 m6
          cases eb2 : bindTg tg2 d2 (wipe σ1 tg2.slots) with
          | none =>
            have : lcG tg2 mi2 me σ1 d2 S5 = .no := by unfold lcG; rw [eb2]
            rw [this] at h5
            exact h5.elim
          | some σ2 =>
            have ef2 : lcG tg2 mi2 me σ1 d2 S5 = (mi2 σ2 S5).bind fun b S4 => if b then (me σ2 S4).bind fun r S5 => (r.toVal S5).bind fun y S6 => .ok (some y) S6 else .ok none S4 := by unfold lcG; rw [eb2]
            rw [ef2, Rs.bind_assoc, Rs.bind_assoc] at h5
            refine ⟨θ5, d2, wipe σ1 tg2.slots, σ2, (rE5.ext e6).wipe _, r6, eb2, fun τ3 rE3 hw3 => ⟨(hw3 _ (fun _ hi => hi)).trans (wipe2 _ _), σ2, θ5, S5, rE3, m6, ?_⟩⟩
            refine (Rest.bind (RA := fun _ _ a b => a = b) h5).mono fun bb H7 ⟨bb', θ7, S7, _, e7, m7, eq, h7⟩ => ?_
            subst eq
            have g7 := g6.step e7 m7
            have rE7 := (rE5.ext e6).ext e7
            have e47 := e5.trans (e6.trans e7)
            cases bb' with
            | false =>
              rw [if_neg Bool.false_ne_true]
              refine ⟨θ7, S7, ds5, g7, rE7, e47, Rest.congr h7 ?_⟩
              show ((lcRun hs2 (lcG tg2 mi2 me σ1) (zs.drop (j + 1)) S7).bind fun ys S2 => Rs.ok ys S2).bind _ = _
              cases lcRun hs2 (lcG tg2 mi2 me σ1) (zs.drop (j + 1)) S7 <;> rfl
            | true =>
              rw [if_pos rfl]
              have h7 : Rest X FA W θ H u Q ds5 ((((me σ2 S7).bind fun r S5 => (r.toVal S5).bind fun y S6 => Rs.ok (some y) S6).bind fun y S1 => (lcRun hs2 (lcG tg2 mi2 me σ1) (zs.drop (j + 1)) S1).bind fun ys S2 => .ok (match y with | some y => y :: ys | none => ys) S2).bind fun y S1 => (lcRun2 hs F (xs.drop (i + 1)) S1).bind fun ys S2 => .ok (y ++ ys) S2) := Rest.congr h7 (by rw [← Rs.bind_assoc]; rfl)
              rw [Rs.bind_assoc, Rs.bind_assoc] at h7
              refine ⟨σ2, θ7, S7, rE3.ext e7, m7, Post.iff.mpr ((Rest.bind (RA := RepP (gx X FA) H7) h7).mono fun v H8 ⟨p, θ8, S8, _, e8, m8, r8, h8⟩ => ?_)⟩
              rcases toVal_ok p S8 with ⟨d', S9, t⟩ | t
              · rw [t] at h8
                obtain ⟨θ9, e9, m9, r9⟩ := toVal_rep e8 m8 r8 t
                have g9 := g7.step e9 m9
                have h9 : Rest X FA W θ H u Q (ds5 ++ [d']) ((lcRun hs2 (lcG tg2 mi2 me σ1) (zs.drop (j + 1)) S9).bind fun y S1 => (lcRun2 hs F (xs.drop (i + 1)) S1).bind fun ys S2 => .ok (y ++ ys) S2) := by
                  refine Rest.push (Rest.congr h8 ?_)
                  show ((lcRun hs2 (lcG tg2 mi2 me σ1) (zs.drop (j + 1)) S9).bind fun ys S2 => Rs.ok (d' :: ys) S2).bind _ = _
                  cases lcRun hs2 (lcG tg2 mi2 me σ1) (zs.drop (j + 1)) S9 with
                  | no => rfl
                  | ex x S => rfl
                  | ok ys S =>
                    show (lcRun2 hs F (xs.drop (i + 1)) S).bind (fun ys' S2 => Rs.ok (d' :: ys ++ ys') S2) = ((lcRun2 hs F (xs.drop (i + 1)) S).bind fun ys' S2 => Rs.ok (ys ++ ys') S2).bind fun ys' S2 => .ok ([d'] ++ ys') S2
                    cases lcRun2 hs F (xs.drop (i + 1)) S <;> rfl
                obtain ⟨vs, v1, v2, g10⟩ := g9.app hD r9
                obtain ⟨rest, _, _, hfit⟩ := Rest.fits h9
                obtain ⟨_, _, _, _, _, gd, _⟩ := id g10
                have hz : vs.length < sizeLine := by
                  simp only [Nog.fits, decide_eq_true_eq, lim_line, List.length_append, List.length_cons, List.length_nil] at hfit
                  omega
                obtain ⟨vs9, q1, q2, q3, q4, q5, q6⟩ := id g9
                rw [v1] at q4
                cases q4
                have e0 : Ext0 (gx X FA) θ9 H8 θ9 (upd H8 D (.lst (vs ++ [v]))) := Ext0.lst v1
                obtain ⟨_, _, _, _, w4, _, _⟩ := id g3
                obtain ⟨_, _, _, _, w5, _, _⟩ := id g4
                exact ⟨vs, v1, hz, θ9, S9, ds5 ++ [d'], g10, (rE7.ext e9).ext0 e0, (e47.trans e9).own w4 v1 (by rw [w5]; simp) (fun o u z => by rw [w5] at z; cases z), h9⟩
              · rw [t] at h8
                exact h8.elim
        · have en2 : j = zs.length := by omega
          subst en2
          rw [List.drop_length, lcRun, if_pos hh2] at h5
          refine .inl ⟨src2.stop θ5 S5 H5 e5 m5 hh2, θ5, S5, ds5, g5, ?_⟩
          have := Rest.push (zs := []) (r := lcRun2 hs F (xs.drop (i + 1)) S5) h5
          rw [List.append_nil] at this
          exact this
  · have en : i = xs.length := by omega
    subst en
    obtain ⟨vs, rE', m', e', d1, d2, d3⟩ := g
    rw [List.drop_length, lcRun2, if_pos hh] at h'
    refine .inl ⟨src.stop θ' S' H' e'.n m' hh, ?_⟩
    unfold Rest at h'
    simp only [Rs.unl] at h'
    cases hu : unl u S' with
    | none => simp only [hu] at h'; exact h'.elim
    | some S3 =>
      simp only [hu] at h'
      replace h' : PostR (gx X FA) W θ H (RepP (gx X FA) H) (fitM (ds ++ []) S3) Q := h'
      unfold fitM at h'
      split at h'
      · refine unl_step m' (e1.trans e') (lk.ext e') hu fun H3 x1 x2 x3 x4 => h' θ' H3 (.ref D) x1 x2 ⟨D, vs, rfl, ?_, ?_, d2, hD0⟩
        · rw [x4 D d2]; exact d1
        · rw [List.append_nil]; exact d3.ext0 x3
      · exact h'.elim
theorem sE_lc2 {elt tge iter tge2 iter2 : Expr} {ifs ifs2 : List Expr} {scope : Scope} {own : List (Str × Nat)} {ms : Env → Sto → Rs SrcR} {tg tg2 : Tg} {mi mi2 : Env → Sto → Rs Bool} {ms2 : Env → Sto → Rs SrcR0} {me : Env → Sto → Rs Pv} (hc : X.calm = true) (hN : X.N.Nodup)
    (ho : ∀ i ∈ tg.slots, i ∈ own.map (·.2)) (ho2 : ∀ i ∈ tg2.slots, i ∈ own.map (·.2)) (hi : PI X tge iter (tI X FA W ms)) (ok : BlkOk X.N X.env.scope scope own) (hs : isPlainE iter = true) (hs2 : isPlainE iter2 = true)
    (hg : ∀ (s : Shared) (H : Hp) (C : Addr) (cl : List (Str × Addr)) (fp : List Addr), PG (X.blk s H scope (compEnvC scope cl C X.env) fp) tge (gT (gx X FA) tg))
    (ht : ∀ (s : Shared) (H : Hp) (C : Addr) (cl : List (Str × Addr)) (fp : List Addr), PTs (X.blk s H scope (compEnvC scope cl C X.env) fp) ifs (tTs (gx X FA) WF mi))
    (hi2 : ∀ (s : Shared) (H : Hp) (C : Addr) (cl : List (Str × Addr)) (fp : List Addr), PI (X.blk s H scope (compEnvC scope cl C X.env) fp) tge2 iter2 (tI0 (gx X FA) WF ms2))
    (hg2 : ∀ (s : Shared) (H : Hp) (C : Addr) (cl : List (Str × Addr)) (fp : List Addr), PG (X.blk s H scope (compEnvC scope cl C X.env) fp) tge2 (gT (gx X FA) tg2))
    (ht2 : ∀ (s : Shared) (H : Hp) (C : Addr) (cl : List (Str × Addr)) (fp : List Addr), PTs (X.blk s H scope (compEnvC scope cl C X.env) fp) ifs2 (tTs (gx X FA) WF mi2))
    (he : ∀ (s : Shared) (H : Hp) (C : Addr) (cl : List (Str × Addr)) (fp : List Addr), PE (X.blk s H scope (compEnvC scope cl C X.env) fp) elt (tE (gx X FA) WF me)) :
    PE X (.ListComp elt [⟨tge, iter, ifs, 0⟩, ⟨tge2, iter2, ifs2, 0⟩] scope pos) (tE (gx X FA) W (lcM2 (own.map (·.2)) ms tg mi ms2 tg2 mi2 me)) :=
  PE.imp (pe_unl (pe_lc2 hc hN hi ok ho2 hg ht hi2 hg2 ht2 he (fold_plain hs) (fun _ => fold_plain hs2))) fun τ H Q h => lc2_read ho h
theorem sS_setLc2 {i : Nat} {y : Str} {py spos : Pos} {elt tge iter tge2 iter2 : Expr} {ifs ifs2 : List Expr} {scope : Scope} {own : List (Str × Nat)} {ms : Env → Sto → Rs SrcR} {tg tg2 : Tg} {mi mi2 : Env → Sto → Rs Bool} {ms2 : Env → Sto → Rs SrcR0} {me : Env → Sto → Rs Pv} (hc : X.calm = true) (hN : X.N.Nodup)
    (hy : X.N[i]? = some y) (hyl : X.env.scope.names.lookup y = some .local)
    (hsw : swapsWith (.ListComp elt [⟨tge, iter, ifs, 0⟩, ⟨tge2, iter2, ifs2, 0⟩] scope pos) (some (.Name y py)) spos.line X.env = pure true)
    (ho : ∀ i ∈ tg.slots, i ∈ own.map (·.2)) (ho2 : ∀ i ∈ tg2.slots, i ∈ own.map (·.2)) (hi : PI X tge iter (tI X FA W ms)) (ok : BlkOk X.N X.env.scope scope own) (hs : isPlainE iter = true) (hs2 : isPlainE iter2 = true)
    (hg : ∀ (s : Shared) (H : Hp) (C : Addr) (cl : List (Str × Addr)) (fp : List Addr), PG (X.blk s H scope (compEnvC scope cl C X.env) fp) tge (gT (gx X FA) tg))
    (ht : ∀ (s : Shared) (H : Hp) (C : Addr) (cl : List (Str × Addr)) (fp : List Addr), PTs (X.blk s H scope (compEnvC scope cl C X.env) fp) ifs (tTs (gx X FA) WF mi))
    (hi2 : ∀ (s : Shared) (H : Hp) (C : Addr) (cl : List (Str × Addr)) (fp : List Addr), PI (X.blk s H scope (compEnvC scope cl C X.env) fp) tge2 iter2 (tI0 (gx X FA) WF ms2))
    (hg2 : ∀ (s : Shared) (H : Hp) (C : Addr) (cl : List (Str × Addr)) (fp : List Addr), PG (X.blk s H scope (compEnvC scope cl C X.env) fp) tge2 (gT (gx X FA) tg2))
    (ht2 : ∀ (s : Shared) (H : Hp) (C : Addr) (cl : List (Str × Addr)) (fp : List Addr), PTs (X.blk s H scope (compEnvC scope cl C X.env) fp) ifs2 (tTs (gx X FA) WF mi2))
    (he : ∀ (s : Shared) (H : Hp) (C : Addr) (cl : List (Str × Addr)) (fp : List Addr), PE (X.blk s H scope (compEnvC scope cl C X.env) fp) elt (tE (gx X FA) WF me)) :
    PS X (.Assign [.Name y py] (.ListComp elt [⟨tge, iter, ifs, 0⟩, ⟨tge2, iter2, ifs2, 0⟩] scope pos) spos) (tS (gx X FA) W fun σ S => (lcM2 (own.map (·.2)) ms tg mi ms2 tg2 mi2 me σ S).st σ fun p S1 => (p.toVal S1).st σ fun d S2 => .nx (σ.set i (some d)) S2) :=
  PS.imp (ps_unl (ps_setLc2 hc hN hy hyl hsw hi ok ho2 hg ht hi2 hg2 ht2 he (fold_plain hs) (fun _ => fold_plain hs2))) fun D τ H ⟨σ, θ, S, rE, m, h⟩ => by
    refine lc2_read (Q := fun v H1 => D.nx (τ.set i (some v)) H1) ho ⟨σ, θ, S, rE, m, h.val.mono fun v H1 ⟨d, θ2, S2, e2, m2, r2, h2⟩ => h2 θ2 H1 _ e2 m2 ((rE.ext e2).set i r2)⟩
end
end Nog

set_option Elab.async false
set_option linter.all false
set_option maxRecDepth 100000
set_option maxHeartbeats 2000000
/-! dict comprehensions with tuple keys -/
namespace Nog
open PySem L2 PyProof.Rows
section
variable {X : Cx} {FA : Nat → Option Addr} {W : WX'} {pos : Pos} {θ θ' : List Addr} {H H' : Hp}
/-- what a put asks of the dict that grows -/
def PutOk (G : Gx) (D : Addr) (H : Hp) (y z : V) (N : Hp → Prop) : Prop :=
  ∃ (θ : List Addr) (kvs : List (Nog.D × Nog.D)) (es : List KE3) (kd : Nog.D) (b : Addr), y = .ref b ∧ H D = some (.ext (DictAt G.w D es)) ∧ es.length < sizeLine ∧ KtR G θ H kvs es ∧ (kvs.map (·.1)).Nodup ∧ okKey kd = true ∧ Rep G θ H kd (.ref b) ∧
    N (upd H D (.ext (DictAt G.w D (putE (Nog.D.nk kd) b z es))))
theorem d_put {pins : List (Addr × Obj)} {σ : L2.St} {s : Shared} {E : Value → Shared → Prop} {D : Addr} {y z : V} {u r : Value} {N : Hp → Prop} {Q : Unit → Shared → Prop} (hu : RoomC X.A) (I : Inv X pins σ H s) (ry : RelV y u) (rz : RelV z r) (h : PutOk (gx X FA) D H y z N)
    (hQ : ∀ s' H', Inv X pins σ H' s' → N H' → Q () s') : wpAny (model X.prog X.w) X.A (dictSet D u r) Q E s := by
  obtain ⟨θ, kvs, es, kd, b, rfl, hD, hl, hk, hn, ok, rk, nx⟩ := h
  cases ry
  obtain ⟨hz, hs, us, t, hm⟩ := dict_lib (lk := false) I hD hk hn
  refine wpAny_dictSet_heap (hsz := by rw [zip3_length t]; exact hz) hu.keys0 (key_is hu I (lk := false) hD hk hn ok rk) hm fun h' hm' sb => ?_
  obtain ⟨us', t', e⟩ := stored_zip (k := Nog.D.nk kd) (a := b) rz t (hk.nodup hn)
  rw [e] at hm'
  have hl' := putE_length (Nog.D.nk kd) b z es
  have dk : DictAt X.w D (putE (Nog.D.nk kd) b z es) h' := dict_back (by omega) hs t' hm'
  refine hQ _ _ (I.write (x := D) (e := D) (by rw [hD]; trivial) (.inl rfl) (fun c w hc q => (sb.2 c hc).trans q) ?_ (dictAt_ok dk)) nx
  obtain ⟨_, _, o, _, _, _, e1, _⟩ := dk
  exact ⟨o, e1⟩
/-- {k: v for target in iter if ..}: D the new dict -/
def tDx (G : Gx) (wi : TI) (g : TG) (tt : TT) (tk tv : TE) (vs : List Nat) : TE := fun σ H Q => wi σ H fun J H1 => ∀ D, H1 D = none → ∃ W : Nat → Nat → Hp → Prop, (∃ m, W 0 m (upd H1 D (.ext (DictAt G.w D [])))) ∧ ∀ i m H, W i m H →
  (J.stop i H ∧ Q (.ref D) H) ∨ (J.go i H ∧ ∃ Nx : Hp → Prop, (∀ H', Nx H' → ∃ m', m' < m ∧ W (i + 1) m' H') ∧ ∀ x H', J.yld i H x H' → g x (L2.wipe σ vs) H' fun σ2 H2 => L2.wipe σ2 vs = L2.wipe σ vs ∧ tt σ2 H2 fun b H3 =>
    if b = true then tk σ2 H3 fun y H4 => tv σ2 H4 fun z H5 => PutOk G D H5 y z Nx else Nx H3)
theorem dx_core {pins : List (Addr × Obj)} {s : Shared} {σ : L2.St} {Q : VK} {kx vx tg iter : Expr} {ifs : List Expr} {scope : Scope} {own : List (Str × Nat)} {pos' : Pos} {wi : TI} {g : TG} {tt : TT} {tk tv : TE} {use : Option (Value → Sem Unit)} {Qf : Value → Shared → Prop}
    (hu : RoomC X.A) (hc : X.calm = true) (hN : X.N.Nodup) (I : Inv X pins σ H s) (hi : PI X tg iter wi) (ok : BlkOk X.N X.env.scope scope own)
    (hg : ∀ (s : Shared) (H : Hp) (C : Addr) (cl : List (Str × Addr)) (fp : List Addr), PG (X.blk s H scope (compEnvC scope cl C X.env) fp) tg g) (ht : ∀ (s : Shared) (H : Hp) (C : Addr) (cl : List (Str × Addr)) (fp : List Addr), PTs (X.blk s H scope (compEnvC scope cl C X.env) fp) ifs tt)
    (hk : ∀ (s : Shared) (H : Hp) (C : Addr) (cl : List (Str × Addr)) (fp : List Addr), PE (X.blk s H scope (compEnvC scope cl C X.env) fp) kx tk)
    (he : ∀ (s : Shared) (H : Hp) (C : Addr) (cl : List (Str × Addr)) (fp : List Addr), PE (X.blk s H scope (compEnvC scope cl C X.env) fp) vx tv) (hs : ∀ x, foldedSetIterable iter X.env x = pure x)
    (h : tDx (gx X FA) wi g tt tk tv (own.map (·.2)) σ H Q)
    (hRR : ∀ D C s' m H', Inv X pins σ H' s' → Q (.ref D) H' → s'.heap.Ns C m → FpOk X pins H' C → compPost (model X.prog X.w) X.A X.xe use Qf (.ref D) C (.ok .next) s') :
    wpAny (model X.prog X.w) X.A (comprehension (.DictComp kx vx [⟨tg, iter, ifs, 0⟩] scope pos) scope X.env pos' newDict false (eval iter X.env) use) Qf X.xe s := by
  have cap : ∀ y ∈ scope.names, y.2 = .free → ∃ c, X.env.cells.lookup y.1 = some c := fun y hy e => (ok.free y hy e).elim (fun k => I.ok.has _ (.inl k)) fun k => I.ok.has _ (.inr k)
  refine wpAny_comprehension_free (use := use) rfl hs (closure_ok cap) ok.kind (fun y hy e => by rw [ok.uniq y hy, e]) (thn (hi.run pins s σ H _ I h) fun xv s1 hx => thn hx fun itv s2 h2 => ?_)
  obtain ⟨it, fp, tn, J, H2, rfl, I2, T, st2, f2, q⟩ := h2
  refine wpAny_newObj_type (newEnv_comp ?_)
  obtain ⟨W, ⟨m0, w0⟩, turn⟩ := q s2.heap.objs.size (I2.hok.fresh (Nat.le_refl _))
  -- the new dict
  have I3 := dict_new I2
  generalize hs3 : ({ s2 with heap := s2.heap.push { cls := .type "dict", data := .dict #[] } } : Shared) = s3 at I3
  have h3 : s3.heap = s2.heap.push { cls := .type "dict", data := .dict #[] } := by rw [← hs3]
  generalize hD : s2.heap.objs.size = D at I3 w0 turn
  have f3 : ∀ b ∈ fp, FpOk X pins (upd H2 D (.ext (DictAt X.w D []))) b ∧ b < s3.heap.objs.size := fun b hb => by
    obtain ⟨o, e, _⟩ := T.obj _ _ st2 b hb
    have lt : b < s2.heap.objs.size := Heap.lt_size e
    refine ⟨⟨?_, (f2 b hb).2⟩, by rw [h3, Heap.size_push]; exact Nat.lt_succ_of_lt lt⟩
    rw [upd_ne (by rw [← hD]; exact Nat.ne_of_lt lt)]
    exact (f2 b hb).1
  have st3 : tn 0 s3.heap := T.keep _ _ _ st2 fun b _ o e => by rw [h3]; exact Heap.get?_push_of_some _ e
  generalize hH3 : upd H2 D (.ext (DictAt X.w D [])) = H3 at I3 w0 f3
  have I4 := block_start I3 ok hN f3
  generalize hcl : cellsFrom (s3.heap.objs.size + 1) scope.names (cloFrom X.env.cells scope.names []) = cl at I4
  have pg := hg s3 H3 s3.heap.objs.size cl fp
  have pt := ht s3 H3 s3.heap.objs.size cl fp
  have pk := hk s3 H3 s3.heap.objs.size cl fp
  have pe := he s3 H3 s3.heap.objs.size cl fp
  show codeAny _ _ (.compStart (.DictComp kx vx [⟨tg, iter, ifs, 0⟩] scope pos) 0 (.ref it) (.ref D) (compEnvC scope cl s3.heap.objs.size X.env)) (compPost (model X.prog X.w) X.A X.xe use Qf (.ref D) s3.heap.objs.size) { s3 with heap := pushCells (s3.heap.push { cls := .type "dict", data := .dict #[] }) scope.names }
  generalize hce : compEnvC scope cl s3.heap.objs.size X.env = ce at I4 pg pt pk pe ⊢
  have cL : ce.locals = s3.heap.objs.size := by subst hce; rfl
  have nfp : ∀ b ∈ fp, H3 b = none := fun b hb => (f3 b hb).1.1
  generalize hs4 : ({ s3 with heap := pushCells (s3.heap.push { cls := .type "dict", data := .dict #[] }) scope.names } : Shared) = s4 at I4 ⊢
  have st4 : tn 0 s4.heap := T.keep _ _ _ st3 fun b _ o e => by rw [← hs4]; exact pushCells_keeps _ _ _ _ (Heap.get?_push_of_some _ e)
  have stat : ∀ {σ' : L2.St} {H' : Hp} {s' : Shared}, Inv (X.blk s3 H3 scope ce fp) [] σ' H' s' → (∀ b ∈ fp, H' b = none) → ∀ b ∈ fp, FpOk (X.blk s3 H3 scope ce fp) [] H' b := fun {σ' H' s'} I' hn b hb =>
    ⟨hn b hb, (I'.ok.exf b hb).1, I'.ok.exfs b hb, .inl hb, fun x c e => (I'.ok.exf b hb).2 x c e, fun p hp => absurd hp (by simp)⟩
  have loop : codeAny (model X.prog X.w) X.A (.compLoop (.DictComp kx vx [⟨tg, iter, ifs, 0⟩] scope pos) 0 (.ref it) (.ref D) ce) (compPost (model X.prog X.w) X.A X.xe use Qf (.ref D) s3.heap.objs.size) s4 := by
    refine compLoop_anyD (fun n s' => ∃ i H', Inv (X.blk s3 H3 scope ce fp) [] (L2.wipe σ (own.map (·.2))) H' s' ∧ tn i s'.heap ∧ (∀ b ∈ fp, H' b = none) ∧ W i n H') ?_ m0 ⟨0, H3, I4, st4, nfp, w0⟩
    rintro n s5 ⟨i, H5, I5, st5, n5, w5⟩
    rcases turn i n H5 w5 with ⟨stop, qq⟩ | ⟨go, Nx, hNx, step⟩
    · refine thnF (T.done (X.blk s3 H3 scope ce fp) rfl rfl rfl hc i [] s5 _ H5 (fun _ _ => False) I5 (stat I5 n5) st5 stop) fun r s6 ⟨hr, I6⟩ => ?_
      subst hr
      have I7 : Inv X pins σ H5 s6 := I3.call' (ch := fp) I6.os I6.base I6.hok I6.bare fun b hb => ⟨(f3 b hb).1.2.2.2.1, (f3 b hb).1.2.1, (f3 b hb).1.2.2.2.2.1, (f3 b hb).1.2.2.2.2.2⟩
      obtain ⟨m, hn, _⟩ := I6.loc
      have nC : H5 ce.locals = none := I6.free
      rw [cL] at nC
      have hn : s6.heap.Ns ce.locals m := hn
      rw [cL] at hn
      exact hRR D s3.heap.objs.size s6 m H5 I7 qq hn (I3.fpOk (Nat.le_refl _) nC)
    · refine thnF (T.item (X.blk s3 H3 scope ce fp) rfl rfl rfl hc i [] s5 _ H5 (fun _ _ => False) I5 (stat I5 n5) st5 go) fun r s6 ⟨u, hr, h6⟩ => ?_
      subst hr
      refine thnF h6 fun _ s7 ⟨x, H7, I7, r7, y7, st7, n7⟩ => ?_
      refine thnF (pg.run _ s7 _ H7 x u _ (I7.pinned (stat I7 n7) (T.obj _ _ st7)) r7 (step x H7 y7)) fun _ s8 ⟨σ8, H8, I8, hw8, q8⟩ => ?_
      refine thnF (pt.run _ s8 σ8 H8 _ I8 q8) fun b s9 ⟨H9, I9, q9⟩ => ?_
      have fin : ∀ {s' : Shared} {H' : Hp}, Inv (X.blk s3 H3 scope ce fp) ([] ++ pinsAt fp s7.heap) σ8 H' s' → Nx H' → ∃ m, m < n ∧ ∃ i H', Inv (X.blk s3 H3 scope ce fp) [] (L2.wipe σ (own.map (·.2))) H' s' ∧ tn i s'.heap ∧ (∀ b ∈ fp, H' b = none) ∧ W i m H' := fun {s' H'} I' nx => by
        obtain ⟨m', hm, w'⟩ := hNx H' nx
        have pin' : ∀ b ∈ fp, ∀ o, s7.heap.get? b = some o → s'.heap.get? b = some o ∧ H' b = none := fun b hb o e => by
          have z := I'.pin (b, o) (List.mem_append_right _ (List.mem_append_right _ (mem_pinsAt hb e)))
          exact ⟨z.1, z.2.1⟩
        refine ⟨m', hm, i + 1, H', (I'.unpinned (pins := [])).weak (by rw [← hw8, wipe_length]) (fun j v e => ?_), T.keep _ _ _ st7 fun b hb o e => (pin' b hb o e).1, fun b hb => ?_, w'⟩
        · rw [← hw8] at e
          exact (wipe_some e).1
        · obtain ⟨o, e, _⟩ := T.obj _ _ st7 b hb
          exact (pin' b hb o e).2
      cases b with
      | false =>
        simp only [Bool.false_eq_true, if_false] at q9 ⊢
        exact fin I9 q9
      | true =>
        simp only [if_true] at q9 ⊢
        refine thnF (pk.run _ s9 σ8 H9 _ I9 q9) fun z s10 ⟨yk, H10, I10, r10, q10⟩ => ?_
        refine thnF (pe.run _ s10 σ8 H10 _ I10 q10) fun z2 s11 ⟨yv, H11, I11, r11, q11⟩ => ?_
        exact d_put (X := X.blk s3 H3 scope ce fp) (FA := FA) hu I11 r10 r11 q11 fun s12 H12 I12 nx => fin I12 nx
  exact codeAny_compStart_dict loop (T.self X.A 0 _ _ _ st4 loop)
theorem pe_dx {kx vx tg iter : Expr} {ifs : List Expr} {scope : Scope} {own : List (Str × Nat)} {wi : TI} {g : TG} {tt : TT} {tk tv : TE} (hu : RoomC X.A) (hc : X.calm = true) (hN : X.N.Nodup) (hi : PI X tg iter wi) (ok : BlkOk X.N X.env.scope scope own)
    (hg : ∀ (s : Shared) (H : Hp) (C : Addr) (cl : List (Str × Addr)) (fp : List Addr), PG (X.blk s H scope (compEnvC scope cl C X.env) fp) tg g) (ht : ∀ (s : Shared) (H : Hp) (C : Addr) (cl : List (Str × Addr)) (fp : List Addr), PTs (X.blk s H scope (compEnvC scope cl C X.env) fp) ifs tt)
    (hk : ∀ (s : Shared) (H : Hp) (C : Addr) (cl : List (Str × Addr)) (fp : List Addr), PE (X.blk s H scope (compEnvC scope cl C X.env) fp) kx tk)
    (he : ∀ (s : Shared) (H : Hp) (C : Addr) (cl : List (Str × Addr)) (fp : List Addr), PE (X.blk s H scope (compEnvC scope cl C X.env) fp) vx tv) (hs : isPlainE iter = true) :
    PE X (.DictComp kx vx [⟨tg, iter, ifs, 0⟩] scope pos) (tDx (gx X FA) wi g tt tk tv (own.map (·.2))) := by
  refine ⟨fun pins s σ H Q I h => ?_⟩
  rw [arm_eval_DictComp]
  refine dx_core hu hc hN I hi ok hg ht hk he (fold_plain hs) h fun D C s' m H' I' q hn f => ⟨m, hn, fun h'' sb => ?_⟩
  obtain ⟨f0, f1, f2, f3, f4, f5⟩ := f
  exact ⟨.ref D, H', I'.turned (t' := s'.toks) (fun b o hb e => (sb.2 b hb).trans e) f0 f1 f3 f4 f5, rfl, q⟩
/-- name = {..}, the dict stored within -/
theorem ps_setDx {i : Nat} {y : Str} {py spos : Pos} {kx vx tg iter : Expr} {ifs : List Expr} {scope : Scope} {own : List (Str × Nat)} {wi : TI} {g : TG} {tt : TT} {tk tv : TE} (hu : RoomC X.A) (hc : X.calm = true) (hN : X.N.Nodup)
    (hy : X.N[i]? = some y) (hyl : X.env.scope.names.lookup y = some .local) (hsw : swapsWith (.DictComp kx vx [⟨tg, iter, ifs, 0⟩] scope pos) (some (.Name y py)) spos.line X.env = pure true) (hi : PI X tg iter wi) (ok : BlkOk X.N X.env.scope scope own)
    (hg : ∀ (s : Shared) (H : Hp) (C : Addr) (cl : List (Str × Addr)) (fp : List Addr), PG (X.blk s H scope (compEnvC scope cl C X.env) fp) tg g) (ht : ∀ (s : Shared) (H : Hp) (C : Addr) (cl : List (Str × Addr)) (fp : List Addr), PTs (X.blk s H scope (compEnvC scope cl C X.env) fp) ifs tt)
    (hk : ∀ (s : Shared) (H : Hp) (C : Addr) (cl : List (Str × Addr)) (fp : List Addr), PE (X.blk s H scope (compEnvC scope cl C X.env) fp) kx tk)
    (he : ∀ (s : Shared) (H : Hp) (C : Addr) (cl : List (Str × Addr)) (fp : List Addr), PE (X.blk s H scope (compEnvC scope cl C X.env) fp) vx tv) (hs : isPlainE iter = true) :
    PS X (.Assign [.Name y py] (.DictComp kx vx [⟨tg, iter, ifs, 0⟩] scope pos) spos) (tAsg (tDx (gx X FA) wi g tt tk tv (own.map (·.2))) (gName i)) := by
  refine ⟨fun pins s σ H D I h => ?_⟩
  rw [exec_Assign_Name_used _ _ _ _ hsw]
  refine wpAny_bind (wpAny_standAt (wpAny_bind ?_))
  show wpAny _ X.A (do let _ ← comprehension (.DictComp kx vx [⟨tg, iter, ifs, 0⟩] scope pos) scope X.env (firstIterPos [⟨tg, iter, ifs, 0⟩] pos) newDict false (eval iter X.env) (some (assign (.Name y py) X.env))) _ _ s
  have h : tDx (gx X FA) wi g tt tk tv (own.map (·.2)) σ H (fun x H1 => gName i x σ H1 D.nx) := h
  refine wpAny_bind (thn (dx_core (FA := FA) (Qf := fun _ s' => SP X pins D .next s') hu hc hN I hi ok hg ht hk he (fold_plain hs) h fun L C s' m H' I' q hn f => ?_) fun _ s' hq => wpAny_pure (wpAny_pure hq))
  show wpAny _ _ (assign (.Name y py) X.env (.ref L)) _ _ _
  obtain ⟨f0, f1, f2, f3, f4, f5⟩ := f
  refine wpAny_assign_Name (store_ok2 (v := V.ref L) I' hN hy (.inl hyl) rfl (fun s2 I2 ⟨a, sb, ha⟩ => ?_) (.inr hyl))
  have haC : C ≠ a := ha.elim (fun z => by rw [z]; exact f1) fun z e => f4 y a z e.symm
  exact ⟨m, hn.sameBut sb haC, fun h3 sb3 => ⟨_, H', I2.turned (t' := s2.toks) (fun b o hb e => (sb3.2 b hb).trans e) f0 f1 f3 f4 f5, q⟩⟩
/-! ### by the evaluator -/
def dcF (own : List Nat) (tg : Tg) (mi : Env → Sto → Rs Bool) (mk mv : Env → Sto → Rs Pv) (σ : Env) : Nog.D → Sto → Rs (Option Nog.D) := fun x S => match bindTg tg x (wipe σ own) with
        | some σ1 => (mi σ1 S).bind fun b S2 => if b then (mk σ1 S2).bind fun r S3 => match r with
            | .val kd => (mv σ1 S3).bind fun r S4 => (r.toVal S4).bind fun vd S5 => if okKey kd then .ok (some (.tup [kd, vd])) S5 else .no
            | _ => .no
          else .ok none S2
        | none => .no
def dcEnd (acc : List (Nog.D × Nog.D)) (ys : List Nog.D) (S2 : Sto) : Rs Pv := match pairsOf ys with
          | some kvs => .ok (.val (.ref S2.length)) (S2 ++ [.dct false (putAll acc kvs)])
          | none => .no
def dcM (own : List Nat) (ms : Env → Sto → Rs SrcR) (tg : Tg) (mi : Env → Sto → Rs Bool) (mk mv : Env → Sto → Rs Pv) (σ : Env) (S : Sto) : Rs Pv :=
  (ms σ S).bind fun a S1 => ((lcRun a.2.1 (dcF own tg mi mk mv σ) a.1 S1).unl a.2.2).calm.bind (dcEnd [])
/-- a turn's pair goes into the dict -/
theorem dcEnd_cons {kd vd : Nog.D} {acc : List (Nog.D × Nog.D)} {ys : List Nog.D} {S : Sto} (ok : okKey kd = true) : dcEnd acc (.tup [kd, vd] :: ys) S = dcEnd (putD kd vd acc) ys S := by
  unfold dcEnd
  rw [pairsOf]
  rw [if_pos ok]
  cases pairsOf ys <;> rfl
theorem dc_read {own : List (Str × Nat)} {ms : Env → Sto → Rs SrcR} {tg : Tg} {mi : Env → Sto → Rs Bool} {mk mv : Env → Sto → Rs Pv} {τ : L2.St} {Q : VK} (ho : ∀ i ∈ tg.slots, i ∈ own.map (·.2))
    (h : tE (gx X FA) W (dcM (own.map (·.2)) ms tg mi mk mv) τ H Q) :
    tDx (gx X FA) (tI X FA W ms) (gT (gx X FA) tg) (tTs (gx X FA) WF mi) (tE (gx X FA) WF mk) (tE (gx X FA) WF mv) (own.map (·.2)) τ H fun v => UQ X (Q v) := by
  obtain ⟨σ, θ, S, rE, m, h⟩ := h
  refine ⟨σ, θ, S, rE, m, (PostR.bind (R := SR X FA H) (Post.iff.mp h)).mono fun J H1 ⟨⟨xs, hs, u⟩, θ1, S1, _, e1, m1, ⟨src, lk⟩, h1⟩ D hD => ?_⟩
  dsimp only at src lk h1
  have hD0 : H D = none := e1.up D hD
  have eD : Ext (gx X FA) θ1 H1 θ1 (upd H1 D (.ext (DictAt X.w D []))) := .new hD
  generalize hF : dcF (own.map (·.2)) tg mi mk mv σ = F at h1
  refine ⟨fun i k H' => k = xs.length - i ∧ i ≤ xs.length ∧ ∃ θ' S' acc es, RepE (gx X FA) θ' H' σ τ ∧ Sim (gx X FA) θ' S' H' ∧ Ext (gx X FA) θ1 H1 θ' H' ∧ H' D = some (.ext (DictAt X.w D es)) ∧ D ∉ θ' ∧ KtR (gx X FA) θ' H' acc es ∧ (acc.map (·.1)).Nodup ∧ es.length ≤ i ∧
      PostR (gx X FA) W θ H (RepP (gx X FA) H) (((lcRun hs F (xs.drop i) S').unl u).calm.bind (dcEnd acc)) Q,
    ⟨xs.length, by simp, Nat.zero_le _, θ1, S1, [], [], (rE.ext e1).ext eD, m1.new hD, eD, upd_same, m1.free hD, .nil, by simp, Nat.le_refl _, h1⟩, ?_⟩
  rintro i k H' ⟨rfl, hi, θ', S', acc, es, rE', m', e', d1, d2, d3, d5, d4, h'⟩
  have hh : heldOk hs S' = true := by
    cases q : heldOk hs S' with
    | true => rfl
    | false =>
      have : lcRun hs F (xs.drop i) S' = .no := by cases xs.drop i <;> simp [lcRun, q]
      rw [this] at h'
      exact h'.elim
  by_cases hlt : i < xs.length
  · refine .inr ⟨src.go i θ' S' H' hlt e'.n m' hh, fun H2 => ∃ θ2 S2 acc2 es2, RepE (gx X FA) θ2 H2 σ τ ∧ Sim (gx X FA) θ2 S2 H2 ∧ Ext (gx X FA) θ1 H1 θ2 H2 ∧ H2 D = some (.ext (DictAt X.w D es2)) ∧ D ∉ θ2 ∧ KtR (gx X FA) θ2 H2 acc2 es2 ∧ (acc2.map (·.1)).Nodup ∧ es2.length ≤ i + 1 ∧
        PostR (gx X FA) W θ H (RepP (gx X FA) H) (((lcRun hs F (xs.drop (i + 1)) S2).unl u).calm.bind (dcEnd acc2)) Q, fun H2 q => ⟨_, by omega, rfl, hlt, q⟩, fun x H'' y => ?_⟩
    obtain ⟨e2, m2, d, hd, r2⟩ := src.yld i θ' S' H' x H'' hlt e'.n m' hh y
    rw [List.drop_eq_getElem_cons hlt, lcRun, if_pos hh] at h'
    have ed : xs[i] = d := by rw [List.getElem?_eq_getElem hlt] at hd; exact Option.some.inj hd
    rw [ed] at h'
    cases eb : bindTg tg d (wipe σ (own.map (·.2))) with
    | none =>
      have : F d S' = .no := by rw [← hF]; unfold dcF; rw [eb]
      rw [this] at h'
      exact h'.elim
    | some σ1 =>
      have ef : F d S' = (mi σ1 S').bind fun b S2 => if b then (mk σ1 S2).bind fun r S3 => match r with
            | .val kd => (mv σ1 S3).bind fun r S4 => (r.toVal S4).bind fun vd S5 => if okKey kd then .ok (some (.tup [kd, vd])) S5 else .no
            | _ => .no
          else .ok none S2 := by rw [← hF]; unfold dcF; rw [eb]
      rw [ef, Rs.bind_assoc] at h'
      refine ⟨θ', d, wipe σ (own.map (·.2)), σ1, (rE'.ext e2).wipe _, r2, eb, fun τ2 rE2 hw => ⟨(hw _ ho).trans (wipe2 _ _), σ1, θ', S', rE2, m2, ?_⟩⟩
      refine (unl_bind (RA := fun _ _ a b => a = b) h').mono fun bb H3 ⟨bb', θ3, S3, _, e3, m3, eq, h3⟩ => ?_
      subst eq
      have e23 := e2.trans e3
      have stay : ∀ {θ'' : List Addr} {H'' : Hp}, Ext (gx X FA) θ' H' θ'' H'' → H'' D = some (.ext (DictAt X.w D es)) ∧ D ∉ θ'' := fun e => ⟨e.fr D _ d1 d2, fun z => (e.nw D z).elim d2 fun q => by rw [d1] at q; cases q⟩
      cases bb' with
      | false =>
        rw [if_neg Bool.false_ne_true]
        have eq : ((Rs.ok none S3 : Rs (Option Nog.D)).bind fun y S1 => (lcRun hs F (xs.drop (i + 1)) S1).bind fun ys S2 => Rs.ok (match y with | some y => y :: ys | none => ys) S2) = lcRun hs F (xs.drop (i + 1)) S3 := by
          show ((lcRun hs F (xs.drop (i + 1)) S3).bind fun ys S2 => Rs.ok ys S2) = _
          cases lcRun hs F (xs.drop (i + 1)) S3 <;> rfl
        have h3 : PostR (gx X FA) W θ H (RepP (gx X FA) H) (((((Rs.ok none S3 : Rs (Option Nog.D)).bind fun y S1 => (lcRun hs F (xs.drop (i + 1)) S1).bind fun ys S2 => Rs.ok (match y with | some y => y :: ys | none => ys) S2)).unl u).calm.bind (dcEnd acc)) Q := h3
        rw [eq] at h3
        exact ⟨θ3, S3, acc, es, rE'.ext e23, m3, e'.trans e23, (stay e23).1, (stay e23).2, d3.ext e23, d5, by omega, h3⟩
      | true =>
        rw [if_pos rfl]
        have h3 : PostR (gx X FA) W θ H (RepP (gx X FA) H) (((((mk σ1 S3).bind fun r S3 => match r with
            | .val kd => (mv σ1 S3).bind fun r S4 => (r.toVal S4).bind fun vd S5 => if okKey kd then .ok (some (.tup [kd, vd])) S5 else .no
            | _ => .no).bind fun y S1 => (lcRun hs F (xs.drop (i + 1)) S1).bind fun ys S2 => Rs.ok (match y with | some y => y :: ys | none => ys) S2).unl u).calm.bind (dcEnd acc)) Q := h3
        rw [Rs.bind_assoc] at h3
        refine ⟨σ1, θ3, S3, rE2.ext e3, m3, Post.iff.mpr ((unl_bind (RA := RepP (gx X FA) H3) h3).mono fun yk H4 ⟨p, θ4, S4, _, e4, m4, r4, h4⟩ => ?_)⟩
        cases p with
        | fresh zs => exact h4.elim
        | rng lo hi => exact h4.elim
        | its zs hs => exact h4.elim
        | val kd =>
          have rk : Rep (gx X FA) θ4 H4 kd yk := r4
          have h4 : PostR (gx X FA) W θ H (RepP (gx X FA) H) (((((mv σ1 S4).bind fun r S4 => (r.toVal S4).bind fun vd S5 => if okKey kd then Rs.ok (some (Nog.D.tup [kd, vd])) S5 else .no).bind fun y S1 => (lcRun hs F (xs.drop (i + 1)) S1).bind fun ys S2 => Rs.ok (match y with | some y => y :: ys | none => ys) S2).unl u).calm.bind (dcEnd acc)) Q := h4
          rw [Rs.bind_assoc] at h4
          refine ⟨σ1, θ4, S4, (rE2.ext e3).ext e4, m4, Post.iff.mpr ((unl_bind (RA := RepP (gx X FA) H4) h4).mono fun z H5 ⟨p, θ5, S5, _, e5, m5, r5, h5⟩ => ?_)⟩
          rcases toVal_ok p S5 with ⟨vd, S6, t⟩ | t
          · rw [t] at h5
            obtain ⟨θ6, e6, m6, r6⟩ := toVal_rep e5 m5 r5 t
            cases ok : okKey kd with
            | false => simp only [ok] at h5; exact h5.elim
            | true =>
              simp only [ok] at h5
              have h5 : PostR (gx X FA) W θ H (RepP (gx X FA) H) ((((lcRun hs F (xs.drop (i + 1)) S6).bind fun ys S2 => Rs.ok (Nog.D.tup [kd, vd] :: ys) S2).unl u).calm.bind (dcEnd acc)) Q := h5
              obtain ⟨⟨ks, rfl⟩, _⟩ := okKey_inv ok
              obtain ⟨b, _, rfl, _⟩ := Rep.tup_inv rk
              have eA := (e23.trans e4).trans e6
              obtain ⟨q1, q2⟩ := stay eA
              have rk6 := rk.ext e6
              have k6 := d3.ext eA
              have e0 : Ext0 (gx X FA) θ6 H5 θ6 (upd H5 D (.ext (DictAt X.w D (putE (Nog.D.nk (.tup ks)) b z es)))) := ⟨fun _ _ h => h, fun c vs h => SqT.upd h fun v ev q => (by rw [q1] at ev; cases ev; rcases q with q | ⟨_, q⟩ <;> cases q), fun c vs h => SqF.upd h fun v ev q => (by rw [q1] at ev; cases ev; obtain ⟨_, q⟩ := q; cases q)⟩
              have lp := putE_length (Nog.D.nk (.tup ks)) b z es
              refine ⟨θ6, acc, es, .tup ks, b, rfl, q1, by have := src.len; omega, k6, d5, ok, rk6, θ6, S6, putD (.tup ks) vd acc, _, (rE'.ext eA).ext0 e0, m6.own q2 e0, ?_, upd_same, q2, (k6.put ok rk6 r6).ext0 e0, putD_nodup _ _ d5, by omega, ?_⟩
              · have eB := e'.trans eA
                exact ⟨⟨eB.pre, fun c vs h => e0.tp c vs (eB.tp c vs h), fun c vs h => e0.fz c vs (eB.fz c vs h)⟩, fun c v h n => by rw [upd_ne (ne_of_none h hD)]; exact eB.fr c v h n, eB.nw, fun c h => by
                  by_cases z : c = D
                  · rw [z]; exact hD
                  · rw [upd_ne z] at h; exact eB.up c h, fun c o v h => by rw [upd_ne (ne_of_none h hD)]; exact eB.fx c o v h⟩
              · revert h5
                cases lcRun hs F (xs.drop (i + 1)) S6 with
                | no => exact fun h => h
                | ex x S => 
                  simp only [Rs.bind, Rs.unl]
                  cases unl u S <;> exact fun h => h
                | ok ys S =>
                  simp only [Rs.bind, Rs.unl]
                  cases unl u S with
                  | none => exact fun h => h
                  | some S7 =>
                    show PostR (gx X FA) W θ H (RepP (gx X FA) H) (dcEnd acc (.tup [.tup ks, vd] :: ys) S7) Q → PostR (gx X FA) W θ H (RepP (gx X FA) H) (dcEnd (putD (.tup ks) vd acc) ys S7) Q
                    rw [dcEnd_cons ok]
                    exact fun h => h
          · rw [t] at h5
            exact h5.elim
  · have en : i = xs.length := by omega
    subst en
    rw [List.drop_length, lcRun, if_pos hh] at h'
    refine .inl ⟨src.stop θ' S' H' e'.n m' hh, ?_⟩
    simp only [Rs.unl] at h'
    cases hu : unl u S' with
    | none => simp only [hu] at h'; exact h'.elim
    | some S3 =>
      simp only [hu] at h'
      refine unl_step m' (e1.trans e') (lk.ext e') hu fun H3 x1 x2 x3 x4 => h' (θ' ++ [D]) H3 (.ref D) (Ext.join hD0 x1) (x2.join d2 ⟨d5, es, ?_, d3.ext0 x3⟩) (show Rep (gx X FA) (θ' ++ [D]) H3 (.ref S3.length) (.ref D) from Rep.ref ?_)
      · show H3 D = _
        rw [x4 D d2]
        exact d1
      · rw [← x2.len, List.getElem?_append_right (Nat.le_refl _), Nat.sub_self]
        rfl
theorem sE_dc {kx vx tge iter : Expr} {ifs : List Expr} {scope : Scope} {own : List (Str × Nat)} {ms : Env → Sto → Rs SrcR} {tg : Tg} {mi : Env → Sto → Rs Bool} {mk mv : Env → Sto → Rs Pv} (hu : RoomC X.A) (hc : X.calm = true) (hN : X.N.Nodup)
    (ho : ∀ i ∈ tg.slots, i ∈ own.map (·.2)) (hi : PI X tge iter (tI X FA W ms)) (ok : BlkOk X.N X.env.scope scope own) (hs : isPlainE iter = true)
    (hg : ∀ (s : Shared) (H : Hp) (C : Addr) (cl : List (Str × Addr)) (fp : List Addr), PG (X.blk s H scope (compEnvC scope cl C X.env) fp) tge (gT (gx X FA) tg))
    (ht : ∀ (s : Shared) (H : Hp) (C : Addr) (cl : List (Str × Addr)) (fp : List Addr), PTs (X.blk s H scope (compEnvC scope cl C X.env) fp) ifs (tTs (gx X FA) WF mi))
    (hk : ∀ (s : Shared) (H : Hp) (C : Addr) (cl : List (Str × Addr)) (fp : List Addr), PE (X.blk s H scope (compEnvC scope cl C X.env) fp) kx (tE (gx X FA) WF mk))
    (he : ∀ (s : Shared) (H : Hp) (C : Addr) (cl : List (Str × Addr)) (fp : List Addr), PE (X.blk s H scope (compEnvC scope cl C X.env) fp) vx (tE (gx X FA) WF mv)) :
    PE X (.DictComp kx vx [⟨tge, iter, ifs, 0⟩] scope pos) (tE (gx X FA) W (dcM (own.map (·.2)) ms tg mi mk mv)) :=
  PE.imp (pe_unl (pe_dx (FA := FA) hu hc hN hi ok hg ht hk he hs)) fun τ H Q h => dc_read ho h
theorem sS_setDx {i : Nat} {y : Str} {py spos : Pos} {kx vx tge iter : Expr} {ifs : List Expr} {scope : Scope} {own : List (Str × Nat)} {ms : Env → Sto → Rs SrcR} {tg : Tg} {mi : Env → Sto → Rs Bool} {mk mv : Env → Sto → Rs Pv} (hu : RoomC X.A) (hc : X.calm = true) (hN : X.N.Nodup)
    (hy : X.N[i]? = some y) (hyl : X.env.scope.names.lookup y = some .local)
    (hsw : swapsWith (.DictComp kx vx [⟨tge, iter, ifs, 0⟩] scope pos) (some (.Name y py)) spos.line X.env = pure true)
    (ho : ∀ i ∈ tg.slots, i ∈ own.map (·.2)) (hi : PI X tge iter (tI X FA W ms)) (ok : BlkOk X.N X.env.scope scope own) (hs : isPlainE iter = true)
    (hg : ∀ (s : Shared) (H : Hp) (C : Addr) (cl : List (Str × Addr)) (fp : List Addr), PG (X.blk s H scope (compEnvC scope cl C X.env) fp) tge (gT (gx X FA) tg))
    (ht : ∀ (s : Shared) (H : Hp) (C : Addr) (cl : List (Str × Addr)) (fp : List Addr), PTs (X.blk s H scope (compEnvC scope cl C X.env) fp) ifs (tTs (gx X FA) WF mi))
    (hk : ∀ (s : Shared) (H : Hp) (C : Addr) (cl : List (Str × Addr)) (fp : List Addr), PE (X.blk s H scope (compEnvC scope cl C X.env) fp) kx (tE (gx X FA) WF mk))
    (he : ∀ (s : Shared) (H : Hp) (C : Addr) (cl : List (Str × Addr)) (fp : List Addr), PE (X.blk s H scope (compEnvC scope cl C X.env) fp) vx (tE (gx X FA) WF mv)) :
    PS X (.Assign [.Name y py] (.DictComp kx vx [⟨tge, iter, ifs, 0⟩] scope pos) spos) (tS (gx X FA) W fun σ S => (dcM (own.map (·.2)) ms tg mi mk mv σ S).st σ fun p S1 => (p.toVal S1).st σ fun d S2 => .nx (σ.set i (some d)) S2) :=
  PS.imp (ps_unl (ps_setDx (FA := FA) hu hc hN hy hyl hsw hi ok hg ht hk he hs)) fun D τ H ⟨σ, θ, S, rE, m, h⟩ => by
    show tDx (gx X FA) (tI X FA W ms) (gT (gx X FA) tg) (tTs (gx X FA) WF mi) (tE (gx X FA) WF mk) (tE (gx X FA) WF mv) (own.map (·.2)) τ H fun v H1 => UQ X (fun H2 => D.nx (τ.set i (some v)) H2) H1
    refine dc_read (Q := fun v H1 => D.nx (τ.set i (some v)) H1) ho ⟨σ, θ, S, rE, m, h.val.mono fun v H1 ⟨d, θ2, S2, e2, m2, r2, h2⟩ => h2 θ2 H1 _ e2 m2 ((rE.ext e2).set i r2)⟩
end
end Nog

set_option Elab.async false
set_option linter.all false
set_option maxRecDepth 100000
set_option maxHeartbeats 1000000
/-! methods of lists and dicts; items set; op= -/
namespace Nog
open PySem L2 PyProof.Rows
section
variable {X : Cx} {FA : Nat → Option Addr} {W : WX'} {pos : Pos} {θ : List Addr} {pins : List (Addr × Obj)} {s : Shared} {τ : L2.St} {H : Hp} {S : Sto}
/-! ### dicts: get, pop -/
theorem dict_getM {a b : Addr} {kvs : List (D × D)} {es : List KE3} {k : D} {Q : VK} {E : Value → Shared → Prop} {lk : Bool} (hu : RoomC X.A) (I : Inv X pins τ H s) (ha : DctH X.w H a es lk) (h : KtR (gx X FA) θ H kvs es) (hn : (kvs.map (·.1)).Nodup)
    (hk : okKey k = true) (r : Rep (gx X FA) θ H k (.ref b)) (q : ∀ v, Rep (gx X FA) θ H ((lookD k kvs).getD .non) v → Q v H) :
    wpAny (model X.prog X.w) X.A (call (.builtin "dict.get") [.ref a, .ref b]) (EP X pins τ Q) E s := by
  obtain ⟨hz, hs, us, t, hm⟩ := dict_lib I ha h hn
  refine call_meetsIn PySem.F.slot_dict_get hm.typeIs PySem.F.entry_dict_get (PySem.F.args_dict_get_2 _ _) (meetsH_dict_get (nestedKind X.prog X.w) a b hs) ⟨hu.keys, D.nk k, _, key_is hu I ha h hn hk r, hm, ?_⟩
  have := atKey_zip hk h t
  cases e : lookD k kvs with
  | some d =>
    rw [e] at this q
    obtain ⟨a', v, u, e1, e2, e3⟩ := this
    rw [e1]
    exact ⟨v, H, I.tok _, e2, q v e3⟩
  | none =>
    rw [e] at this q
    rw [this]
    exact ⟨.non, H, I.tok _, rfl, q .non .non⟩
theorem dict_getD {a b : Addr} {kvs : List (D × D)} {es : List KE3} {k d0 : D} {v0 : V} {u0 : Value} {Q : VK} {E : Value → Shared → Prop} {lk : Bool} (hu : RoomC X.A) (I : Inv X pins τ H s) (ha : DctH X.w H a es lk) (h : KtR (gx X FA) θ H kvs es) (hn : (kvs.map (·.1)).Nodup)
    (hk : okKey k = true) (r : Rep (gx X FA) θ H k (.ref b)) (r0 : Rep (gx X FA) θ H d0 v0) (ru : RelV v0 u0) (q : ∀ v, Rep (gx X FA) θ H ((lookD k kvs).getD d0) v → Q v H) :
    wpAny (model X.prog X.w) X.A (call (.builtin "dict.get") [.ref a, .ref b, u0]) (EP X pins τ Q) E s := by
  obtain ⟨hz, hs, us, t, hm⟩ := dict_lib I ha h hn
  refine call_meetsIn PySem.F.slot_dict_get hm.typeIs PySem.F.entry_dict_get (PySem.F.args_dict_get_3 _ _ _) (meetsH_dict_get_default (nestedKind X.prog X.w) a b hs u0) ⟨hu.keys, D.nk k, _, key_is hu I ha h hn hk r, hm, ?_⟩
  have := atKey_zip hk h t
  cases e : lookD k kvs with
  | some d =>
    rw [e] at this q
    obtain ⟨a', v, u, e1, e2, e3⟩ := this
    rw [e1]
    exact ⟨v, H, I.tok _, e2, q v e3⟩
  | none =>
    rw [e] at this q
    rw [this]
    exact ⟨v0, H, I.tok _, ru, q v0 r0⟩
def dropE (k : NestedKey) (es : List KE3) : List KE3 := es.filter fun e => decide (e.1 ≠ k)
theorem drop_zip {k : NestedKey} : ∀ {es : List KE3} {us : List Value}, Paired RelE es us → ∃ us', Paired RelE (dropE k es) us' ∧ withoutH (zip3 es us) k = zip3 (dropE k es) us'
  | [], _, .nil => ⟨[], .nil, rfl⟩
  | (k', a', v') :: es, _, .cons (b := u') r t => by
    obtain ⟨us', h1, h2⟩ := drop_zip (k := k) t
    rw [zip3, dropE, withoutH, List.filter_cons, List.filter_cons]
    by_cases e : k' = k
    · rw [if_neg (by simp [e]), if_neg (by simp [e])]
      exact ⟨us', h1, h2⟩
    · rw [if_pos (by simp [e]), if_pos (by simp [e])]
      refine ⟨u' :: us', .cons r h1, ?_⟩
      rw [zip3]
      congr 1
theorem KtR.drop {k : D} (hk : okKey k = true) : ∀ {kvs : List (D × D)} {es : List KE3}, KtR (gx X FA) θ H kvs es → KtR (gx X FA) θ H (dropD k kvs) (dropE (D.nk k) es)
  | _, _, .nil => .nil
  | _, _, .cons (ks := ks) h0 h h' r => by
    have ih := r.drop hk
    unfold dropD dropE at ih ⊢
    rw [List.filter_cons, List.filter_cons]
    by_cases e : D.tup ks = k
    · rw [if_neg (by simp [e]), if_neg (by simp [e])]
      exact ih
    · have hne : ¬ D.nk (.tup ks) = D.nk k := fun q => e ((nk_iff h0 hk).mp q)
      rw [if_pos (by simp [e]), if_pos (by simp [hne])]
      exact .cons h0 h h' ih
theorem dropD_nodup {k : D} {kvs : List (D × D)} (h : (kvs.map (·.1)).Nodup) : ((dropD k kvs).map (·.1)).Nodup := h.sublist (List.filter_sublist.map _)
theorem dropE_length (k : NestedKey) (es : List KE3) : (dropE k es).length ≤ es.length := List.length_filter_le ..
theorem dict_popM {a b : Addr} {kvs : List (D × D)} {es : List KE3} {k d : D} {Q : VK} {E : Value → Shared → Prop} (hu : RoomC X.A) (I : Inv X pins τ H s) (ha : H a = some (.ext (DictAt X.w a es))) (h : KtR (gx X FA) θ H kvs es) (hn : (kvs.map (·.1)).Nodup)
    (hk : okKey k = true) (r : Rep (gx X FA) θ H k (.ref b)) (hd : lookD k kvs = some d) (q : ∀ v, Rep (gx X FA) θ H d v → Q v (upd H a (.ext (DictAt X.w a (dropE (D.nk k) es))))) :
    wpAny (model X.prog X.w) X.A (call (.builtin "dict.pop") [.ref a, .ref b]) (EP X pins τ Q) E s := by
  obtain ⟨hz, hs, us, t, hm⟩ := dict_lib (lk := false) I ha h hn
  have := atKey_zip hk h t
  rw [hd] at this
  obtain ⟨a', v, u, e1, e2, e3⟩ := this
  refine call_pop_heap (more := []) (hsz := by rw [zip3_length t]; exact hz) (.inl rfl) (PySem.F.args_dict_pop_2 _ _) hu.keys (key_is hu I (lk := false) ha h hn hk r) hs hm e1 fun h' hm' sb => ?_
  obtain ⟨us', t', e⟩ := drop_zip (k := D.nk k) t
  rw [e] at hm'
  have hl' := dropE_length (D.nk k) es
  have dk : DictAt X.w a (dropE (D.nk k) es) h' := dict_back (by omega) hs t' hm'
  refine ⟨v, _, I.write (x := a) (e := a) (by rw [ha]; trivial) (.inl rfl) (fun c w hc z => (sb.2 c hc).trans z) ?_ (dictAt_ok dk), e2, q v e3⟩
  obtain ⟨_, _, o, _, _, _, e1, _⟩ := dk
  exact ⟨o, e1⟩

/-! ### a method by values -/
def MsR (G : Gx) (W : WX') (m : Me) : V → List V → Hp → VK → Prop := fun x xs H Q => ∃ p ds θ S H₁, Sim G θ S H ∧ RepP G H₁ θ H p x ∧ RepL G θ H ds xs ∧ Post G W θ H (ms m S p ds) Q
/-- a list's method: on a list -/
theorem ms_lst {m : Me} {p : Pv} {ds : List Nog.D} {x : V} {H₁ : Hp} (hm : m ≠ .add ∧ m.onD = false) (ms' : Sim (gx X FA) θ S H) (rp : RepP (gx X FA) H₁ θ H p x) {Q : VK} (h : Post (gx X FA) W θ H (ms m S p ds) Q) :
    ∃ l xs a vs, p = .val (.ref l) ∧ S[l]? = some (.lst xs) ∧ x = .ref a ∧ θ[l]? = some a ∧ H a = some (.lst vs) ∧ RepL (gx X FA) θ H xs vs := by
  have hn := post_some h
  unfold ms at hn
  split at hn
  · rename_i l
    obtain ⟨a, h1, rfl⟩ := RepP.r rp
    split at hn
    · rename_i xs e
      obtain ⟨vs, h2, h3⟩ := ms'.ob l a _ h1 e
      exact ⟨l, xs, a, vs, rfl, e, rfl, h1, h2, h3⟩
    · exfalso; obtain ⟨h1, h2⟩ := hm; cases m <;> simp_all [Me.onD]
    · exfalso; obtain ⟨h1, h2⟩ := hm; cases m <;> simp_all [Me.onD]
    · exact absurd rfl hn
  · exact absurd rfl hn
/-- a dict's method: on a dict -/
theorem ms_dct {m : Me} {p : Pv} {ds : List Nog.D} {x : V} {H₁ : Hp} (hm : m.onD = true) (ms' : Sim (gx X FA) θ S H) (rp : RepP (gx X FA) H₁ θ H p x) {Q : VK} (h : Post (gx X FA) W θ H (ms m S p ds) Q) :
    ∃ l lk kvs a es, p = .val (.ref l) ∧ S[l]? = some (.dct lk kvs) ∧ x = .ref a ∧ θ[l]? = some a ∧ (kvs.map (·.1)).Nodup ∧ DctH X.w H a es lk ∧ KtR (gx X FA) θ H kvs es := by
  have hn := post_some h
  unfold ms at hn
  split at hn
  · rename_i l
    obtain ⟨a, h1, rfl⟩ := RepP.r rp
    split at hn
    · exfalso; cases m <;> simp_all [Me.onD]
    · rename_i lk kvs e
      obtain ⟨hd, es, h2, h3⟩ := ms'.ob l a _ h1 e
      exact ⟨l, lk, kvs, a, es, rfl, e, rfl, h1, hd, h2, h3⟩
    · exfalso; cases m <;> simp_all [Me.onD]
    · exact absurd rfl hn
  · exact absurd rfl hn
theorem Post.set {G : Gx} {l : Nat} {a : Addr} {ho : HO} {o : O} {d : Nog.D} {v : V} {Q : VK} (h : Post G W θ H (.ok (.val d) (S.set l o)) Q) (m : Sim G θ S H) (hl : θ[l]? = some a) (hm : ∀ vs, H a ≠ some (.tup vs)) (hx : ∀ o u, H a ≠ some (.frz o u))
    (ob : Ext G θ H θ (upd H a ho) → ObR G θ (upd H a ho) a o) (r : Rep G θ H d v) : Q v (upd H a ho) := by
  have e : Ext G θ H θ (upd H a ho) := Ext.write (mem_ix.mpr ⟨l, hl⟩) hm hx
  exact h θ _ v e (m.write hl e (ob e)) (r.ext e)
theorem lst_tag {a : Addr} {vs : List V} (h : H a = some (.lst vs)) : (∀ us, H a ≠ some (.tup us)) ∧ ∀ o u, H a ≠ some (.frz o u) := by
  refine ⟨fun us e => ?_, fun o u e => ?_⟩ <;> (rw [h] at e; cases e)
theorem ext_tag {a : Addr} {φ : Heap → Prop} (h : H a = some (.ext φ)) : (∀ us, H a ≠ some (.tup us)) ∧ ∀ o u, H a ≠ some (.frz o u) := by
  refine ⟨fun us e => ?_, fun o u e => ?_⟩ <;> (rw [h] at e; cases e)
theorem mtr_append : MtR X "list.append" (MsR (gx X FA) W .append) := by
  intro pins s τ H x xs v us Q I rx rxs h
  obtain ⟨p, ds, θ, S, H₁, m, rp, rds, h⟩ := h
  obtain ⟨l, ys, a, vs, rfl, e, rfl, h1, h2, h3⟩ := ms_lst ⟨by decide, rfl⟩ m rp h
  simp only [ms, e] at h
  split at h <;> first | exact h.elim | contradiction | skip
  split at h <;> first | exact h.elim | contradiction | skip
  rename_i d c
  obtain ⟨y, r, rfl, h4, h5⟩ := rds.cons_inv
  obtain rfl := h5.nil_inv
  refine mt_append pins s τ H _ _ v us Q I rx rxs ⟨a, vs, y, rfl, rfl, h2, by rw [h3.length]; exact Nat.lt_of_lt_of_eq c lim_line, ?_⟩
  exact h.set m h1 (lst_tag h2).1 (lst_tag h2).2 (fun e => ⟨_, upd_same, (h3.ext e).append (.cons (h4.ext e) .nil)⟩) .non
theorem mtr_pop : MtR X "list.pop" (MsR (gx X FA) W .pop) := by
  intro pins s τ H x xs v us Q I rx rxs h
  obtain ⟨p, ds, θ, S, H₁, m, rp, rds, h⟩ := h
  obtain ⟨l, ys, a, vs, rfl, e, rfl, h1, h2, h3⟩ := ms_lst ⟨by decide, rfl⟩ m rp h
  have hz := (I.lstM h2).1
  have hn := line63
  have hlen := h3.length
  simp only [ms, e] at h
  split at h <;> first | exact h.elim | contradiction | skip
  · obtain rfl := rds.nil_inv
    split at h <;> first | exact h.elim | contradiction | skip
    rename_i d hd
    rw [List.getLast?_eq_getElem?] at hd
    obtain ⟨w, h4, h5⟩ := h3.get hd
    refine mt_pop pins s τ H _ _ v us Q I rx rxs ⟨a, vs, w, rfl, rfl, h2, by rw [hlen]; exact h4, ?_⟩
    exact h.set m h1 (lst_tag h2).1 (lst_tag h2).2 (fun e => ⟨_, upd_same, by
      have := (h3.ext e).take (ys.length - 1)
      rwa [← List.dropLast_eq_take, ← hlen, ← List.dropLast_eq_take] at this⟩) h5
  · rename_i i _
    obtain ⟨y, r, rfl, h4, h5⟩ := rds.cons_inv
    obtain rfl := h5.nil_inv
    rw [Rep] at h4
    subst h4
    split at h <;> first | exact h.elim | contradiction | skip
    rename_i k hk
    split at h <;> first | exact h.elim | contradiction | skip
    rename_i d hd
    obtain ⟨w, h6, h7⟩ := h3.get hd
    have hk' : L2.ixN vs.length i = some k := by rw [hlen]; exact hk
    obtain ⟨q1, q2, q3, q4⟩ := ixN_seq hk'
    refine mt_popAt pins s τ H _ _ v us Q I rx rxs ⟨a, vs, i, k, w, rfl, rfl, h2, by omega, by omega, q1, h6, ?_⟩
    exact h.set m h1 (lst_tag h2).1 (lst_tag h2).2 (fun e => ⟨_, upd_same, (h3.ext e).eraseIdx k⟩) h7
theorem mtr_reverse : MtR X "list.reverse" (MsR (gx X FA) W .reverse) := by
  intro pins s τ H x xs v us Q I rx rxs h
  obtain ⟨p, ds, θ, S, H₁, m, rp, rds, h⟩ := h
  obtain ⟨l, ys, a, vs, rfl, e, rfl, h1, h2, h3⟩ := ms_lst ⟨by decide, rfl⟩ m rp h
  simp only [ms, e] at h
  split at h <;> first | exact h.elim | contradiction | skip
  obtain rfl := rds.nil_inv
  refine mt_reverse pins s τ H _ _ v us Q I rx rxs ⟨a, vs, rfl, rfl, h2, ?_⟩
  exact h.set m h1 (lst_tag h2).1 (lst_tag h2).2 (fun e => ⟨_, upd_same, (h3.ext e).reverse⟩) .non
theorem mtr_get (hu : RoomC X.A) : MtR X "dict.get" (MsR (gx X FA) W .get) := by
  intro pins s τ H x xs v us Q I rx rxs h
  obtain ⟨p, ds, θ, S, H₁, m, rp, rds, h⟩ := h
  obtain ⟨l, lk, kvs, a, es, rfl, e, rfl, h1, hn, h2, h3⟩ := ms_dct rfl m rp h
  cases rx
  simp only [ms, e] at h
  split at h <;> first | exact h.elim | contradiction | skip
  · rename_i k
    obtain ⟨y, r, rfl, h4, h5⟩ := rds.cons_inv
    obtain rfl := h5.nil_inv
    split at h <;> first | exact h.elim | contradiction | skip
    rename_i hk
    obtain ⟨⟨ks, rfl⟩, _⟩ := okKey_inv hk
    obtain ⟨b, _, rfl, _⟩ := Rep.tup_inv h4
    obtain ⟨u, rfl, ru⟩ := rxs.one
    cases ru
    exact dict_getM hu I h2 h3 hn hk h4 fun w hw => h.val m hw
  · rename_i k d0
    obtain ⟨y, r, rfl, h4, h5⟩ := rds.cons_inv
    obtain ⟨y2, r2, rfl, h6, h7⟩ := h5.cons_inv
    obtain rfl := h7.nil_inv
    split at h <;> first | exact h.elim | contradiction | skip
    rename_i hk
    obtain ⟨⟨ks, rfl⟩, _⟩ := okKey_inv hk
    obtain ⟨b, _, rfl, _⟩ := Rep.tup_inv h4
    obtain ⟨u, u2, rfl, ru, ru2⟩ := rxs.two
    cases ru
    exact dict_getD hu I h2 h3 hn hk h4 h6 ru2 fun w hw => h.val m hw
theorem mtr_dpop (hu : RoomC X.A) : MtR X "dict.pop" (MsR (gx X FA) W .dpop) := by
  intro pins s τ H x xs v us Q I rx rxs h
  obtain ⟨p, ds, θ, S, H₁, m, rp, rds, h⟩ := h
  obtain ⟨l, lk, kvs, a, es, rfl, e, rfl, h1, hn, h2, h3⟩ := ms_dct rfl m rp h
  cases rx
  simp only [ms, e] at h
  split at h <;> first | exact h.elim | contradiction | skip
  rename_i k
  obtain ⟨y, r, rfl, h4, h5⟩ := rds.cons_inv
  obtain rfl := h5.nil_inv
  split at h <;> first | exact h.elim | contradiction | skip
  rename_i hk
  simp only [Bool.and_eq_true, Bool.not_eq_true'] at hk
  obtain ⟨hk, rfl⟩ := hk
  split at h <;> first | exact h.elim | contradiction | skip
  rename_i d hd
  obtain ⟨⟨ks, rfl⟩, _⟩ := okKey_inv hk
  obtain ⟨b, _, rfl, _⟩ := Rep.tup_inv h4
  obtain ⟨u, rfl, ru⟩ := rxs.one
  cases ru
  refine dict_popM hu I h2 h3 hn hk h4 hd fun w hw => ?_
  exact h.set m h1 (ext_tag h2).1 (ext_tag h2).2 (fun e => ⟨dropD_nodup hn, _, upd_same, (h3.ext e).drop hk⟩) hw
end
end Nog

set_option Elab.async false
set_option linter.all false
set_option maxRecDepth 100000
set_option maxHeartbeats 1000000
/-! methods called; items set; op= -/
namespace Nog
open PySem L2 PyProof.Rows
section
variable {X : Cx} {FA : Nat → Option Addr} {W : WX'} {pos : Pos} {θ : List Addr} {pins : List (Addr × Obj)} {s : Shared} {τ : L2.St} {H : Hp} {S : Sto}
/-! ### a method's call -/
def tM (ok : V → Hp → Prop) (r : V → List V → Hp → VK → Prop) (to : TE) (t : TA) : TE := fun σ H Q => to σ H fun x H1 => ok x H1 ∧ t σ H1 fun xs H2 => r x xs H2 Q
/-- x is of the type T, without own fields -/
def TyIs (X : Cx) (T : String) (ok : V → Hp → Prop) : Prop := ∀ (pins : List (Addr × Obj)) (s : Shared) (τ : L2.St) (H : Hp) (x : V) (v : Value), Inv X pins τ H s → RelV x v → ok x H → s.TypeIs v T ∧ ∀ a, v = .ref a → ∃ ob, s.heap.get? a = some ob ∧ ob.dict = none
/-- no call: what an attribute is taken of -/
def isRecv : Expr → Bool
  | .Call .. => false
  | _ => true
theorem recv_base {o : Expr} {m : Str} {env : PySem.Env} (h : isRecv o = true) : attributeBase o m env (eval o env) = eval o env := by
  cases o <;> first | rfl | cases h
variable {o e : Expr} {es : List Expr} {to : TE} {t : TA} {name : Str} {apos cpos : Pos} {T id : String} {r : V → List V → Hp → VK → Prop} {ok : V → Hp → Prop}
theorem pe_m0 (pa : PlainAttrs T) (slot : Slot T name id) (hty : typeOf (.builtin id) = pure (.type "method_descriptor")) (hm : MtR X id r) (hT : TyIs X T ok) (ho : PE X o to) (hr : isRecv o = true) (hline : (apos.endLine == cpos.line) = true) :
    PE X (.Call (.Attribute o name apos) [] [] cpos) (tM ok r to tNil) := by
  refine ⟨fun pins s σ H Q I h => ?_⟩
  refine wpAny_Call_method0_late (recv_base hr) hline (thn (ho.run pins s σ H _ I h) fun v s1 ⟨x, H1, I1, r1, ty, q1⟩ => ?_)
  obtain ⟨h1, h2⟩ := hT _ _ _ _ _ _ I1 r1 ty
  exact ⟨T, id, pa, slot, hty, h1, h2, Calls.callWith_builtin rfl (PySem.evalArgs_none (hm pins s1 σ H1 x [] v [] Q I1 r1 .nil q1))⟩
theorem few_plain {cpos : Pos} {es : List Expr} {env : PySem.Env} (hp : ∀ x ∈ es, isPlainE x = true) (hl : es.length < 20) : ((backTo cpos (starEach es env)).all (fun x => !x.1) && (backToKw cpos (keywordEach [] env)).all (fun x => x.1.isSome)
      && decide (es.length + ([] : List Keyword).length + (if ([] : List Keyword).isEmpty then 0 else 1) < 30)) = true := by
  have h1 := star_plain (env := env) (pos := cpos) hp
  have h2 : (backTo cpos (starEach es env)).all (fun x => !x.1) = true := by
    rw [List.all_eq_true]
    intro x hx
    rw [List.any_eq_false] at h1
    simpa using h1 x hx
  rw [h2]
  have : decide (es.length + ([] : List Keyword).length + (if ([] : List Keyword).isEmpty then 0 else 1) < 30) = true := by simp; omega
  rw [this]
  rfl
theorem pe_mN (pa : PlainAttrs T) (slot : Slot T name id) (hty : typeOf (.builtin id) = pure (.type "method_descriptor")) (hm : MtR X id r) (hT : TyIs X T ok) (ho : PE X o to) (ha : PA X (e :: es) t) (hr : isRecv o = true) (hline : (apos.endLine == cpos.line) = true)
    (hp : ∀ x ∈ e :: es, isPlainE x = true) (hl : (e :: es).length < 20) : PE X (.Call (.Attribute o name apos) (e :: es) [] cpos) (tM ok r to t) := by
  refine ⟨fun pins s σ H Q I h => ?_⟩
  refine wpAny_Call_method_late (recv_base hr) (few_plain hp hl) hline rfl (thn (ho.run pins s σ H _ I h) fun v s1 ⟨x, H1, I1, r1, ty, q1⟩ => ?_)
  obtain ⟨h1, h2⟩ := hT _ _ _ _ _ _ I1 r1 ty
  refine ⟨T, id, pa, slot, hty, h1, h2, ?_⟩
  have hA := ha.run cpos pins s1 σ H1 _ I1 q1
  refine Calls.callWith_builtin (star_plain hp) ?_
  rw [star_cons (hp e List.mem_cons_self)] at hA ⊢
  refine Calls.evalArgs_plain ?_
  exact thn hA fun us s2 ⟨vs, H2, I2, r2, q2⟩ => hm pins s2 σ H2 x vs v us Q I2 r1 r2 q2
def okL (X : Cx) (x : V) (H : Hp) : Prop := tyV X.K "list" x H
theorem tyL : TyIs X "list" (okL X) := fun pins s τ H x v I r h => tyV_is I r h
def okDc (X : Cx) (FA : Nat → Option Addr) (x : V) (H : Hp) : Prop := ∃ (θ : List Addr) (a : Addr) (es : List KE3) (kvs : List (Nog.D × Nog.D)) (lk : Bool), x = .ref a ∧ (kvs.map (·.1)).Nodup ∧ DctH X.w H a es lk ∧ KtR (gx X FA) θ H kvs es
theorem tyD : TyIs X "dict" (okDc X FA) := fun pins s τ H x v I r ⟨θ, a, es, kvs, lk, e, hn, h2, h3⟩ => by
  subst e
  cases r
  obtain ⟨_, _, us, _, hm⟩ := dict_lib I h2 h3 hn
  refine ⟨hm.typeIs, fun b e => ?_⟩
  cases e
  obtain ⟨o, _, _, h1, h4, _⟩ := hm
  exact ⟨o, h1, h4.2.1⟩
theorem on_ok {m : Me} {p : Pv} {x : V} {H₁ : Hp} (ms' : Sim (gx X FA) θ S H) (rp : RepP (gx X FA) H₁ θ H p x) (h : m.on S p = true) : (if m.onD then okDc X FA x H else okL X x H) := by
  unfold Me.on at h
  split at h
  · rename_i c
    rw [if_pos c]
    unfold Pv.isDc at h
    split at h <;> first | contradiction | skip
    rename_i l
    obtain ⟨a, h1, rfl⟩ := RepP.r rp
    split at h <;> first | contradiction | skip
    rename_i lk kvs e
    obtain ⟨hn, es, h2, h3⟩ := ms'.ob l a _ h1 e
    exact ⟨θ, a, es, kvs, lk, rfl, hn, h2, h3⟩
  · rename_i c
    rw [if_neg c]
    unfold Pv.isLs at h
    split at h <;> first | contradiction | skip
    rename_i l
    obtain ⟨a, h1, rfl⟩ := RepP.r rp
    split at h <;> first | contradiction | skip
    rename_i xs e
    obtain ⟨vs, h2, h3⟩ := ms'.ob l a _ h1 e
    exact .inl ⟨rfl, vs, .of h2⟩
def msM (m : Me) (mo : Env → Sto → Rs Pv) (ml : Env → Sto → Rs (List Nog.D)) (σ : Env) (S : Sto) : Rs Pv := (mo σ S).bind fun p S1 => if m.on S1 p then (ml σ S1).bind fun ds S2 => ms m S2 p ds else .no
theorem ms_read {m : Me} {mo : Env → Sto → Rs Pv} {ml : Env → Sto → Rs (List Nog.D)} {Q : VK} (h : tE (gx X FA) W (msM m mo ml) τ H Q) :
    tM (fun x H => if m.onD then okDc X FA x H else okL X x H) (MsR (gx X FA) W m) (tE (gx X FA) W mo) (tA (gx X FA) W ml) τ H Q := by
  obtain ⟨σ, θ, S, rE, ms', h⟩ := h
  refine ⟨σ, θ, S, rE, ms', (Post.pbind h).mono fun x H1 ⟨p, θ1, S1, _, e1, m1, r1, h1⟩ => ?_⟩
  split at h1
  · rename_i c
    refine ⟨on_ok m1 r1 c, σ, θ1, S1, rE.ext e1, m1, (PostR.bind (R := fun θ' H' ds vs => RepL (gx X FA) θ' H' ds vs) (Post.iff.mp h1)).mono fun xs H2 ⟨ds, θ2, S2, _, e2, m2, r2, h2⟩ => ?_⟩
    exact ⟨p, ds, θ2, S2, H, m2, r1.ext e2, r2, Post.rebase e2 (Post.iff.mpr h2)⟩
  · exact h1.elim
/-- the methods that are told -/
def meT : Me → Option (String × Str × String)
  | .append => some ("list", "append", "list.append")
  | .pop => some ("list", "pop", "list.pop")
  | .reverse => some ("list", "reverse", "list.reverse")
  | .get => some ("dict", "get", "dict.get")
  | .dpop => some ("dict", "pop", "dict.pop")
  | _ => none
theorem sE_ms0 {m : Me} {mo : Env → Sto → Rs Pv} (hu : RoomC X.A) (hm : meT m = some (T, name, id)) (ho : PE X o (tE (gx X FA) W mo)) (hr : isRecv o = true) (hline : (apos.endLine == cpos.line) = true) :
    PE X (.Call (.Attribute o name apos) [] [] cpos) (tE (gx X FA) W (msM m mo fun _ S => .ok [] S)) := by
  have key : ∀ (pa : PlainAttrs T) (slot : Slot T name id) (hty : typeOf (.builtin id) = pure (.type "method_descriptor")) (hm : MtR X id (MsR (gx X FA) W m)) (hT : TyIs X T (fun x H => if m.onD then okDc X FA x H else okL X x H)), PE X (.Call (.Attribute o name apos) [] [] cpos) (tE (gx X FA) W (msM m mo fun _ S => .ok [] S)) := fun pa slot hty hm hT =>
    PE.imp (pe_m0 pa slot hty hm hT ho hr hline) fun τ H Q h => by
      obtain ⟨σ, θ, S, rE, ms', h⟩ := ms_read h
      refine ⟨σ, θ, S, rE, ms', h.mono fun x H1 ⟨c, σ1, θ1, S1, rE1, m1, h1⟩ => ⟨c, ?_⟩⟩
      exact h1 θ1 H1 [] .refl m1 .nil
  cases m <;> first | (cases hm; done) | (cases hm)
  · exact key PySem.F.plainAttrs_list PySem.F.slot_list_append PySem.F.type_list_append mtr_append tyL
  · exact key PySem.F.plainAttrs_list PySem.F.slot_list_pop PySem.F.type_list_pop mtr_pop tyL
  · exact key PySem.F.plainAttrs_list PySem.F.slot_list_reverse PySem.F.type_list_reverse mtr_reverse tyL
  · exact key PySem.F.plainAttrs_dict PySem.F.slot_dict_get PySem.F.type_dict_get (mtr_get hu) tyD
  · exact key PySem.F.plainAttrs_dict PySem.F.slot_dict_pop PySem.F.type_dict_pop (mtr_dpop hu) tyD
theorem sE_msN {m : Me} {mo : Env → Sto → Rs Pv} {ml : Env → Sto → Rs (List Nog.D)} (hu : RoomC X.A) (hm : meT m = some (T, name, id)) (ho : PE X o (tE (gx X FA) W mo)) (ha : PA X (e :: es) (tA (gx X FA) W ml)) (hr : isRecv o = true) (hline : (apos.endLine == cpos.line) = true)
    (hp : ∀ x ∈ e :: es, isPlainE x = true) (hl : (e :: es).length < 20) : PE X (.Call (.Attribute o name apos) (e :: es) [] cpos) (tE (gx X FA) W (msM m mo ml)) := by
  have key : ∀ (pa : PlainAttrs T) (slot : Slot T name id) (hty : typeOf (.builtin id) = pure (.type "method_descriptor")) (hm : MtR X id (MsR (gx X FA) W m)) (hT : TyIs X T (fun x H => if m.onD then okDc X FA x H else okL X x H)), PE X (.Call (.Attribute o name apos) (e :: es) [] cpos) (tE (gx X FA) W (msM m mo ml)) := fun pa slot hty hm hT =>
    PE.imp (pe_mN pa slot hty hm hT ho ha hr hline hp hl) fun τ H Q h => ms_read h
  cases m <;> first | (cases hm; done) | (cases hm)
  · exact key PySem.F.plainAttrs_list PySem.F.slot_list_append PySem.F.type_list_append mtr_append tyL
  · exact key PySem.F.plainAttrs_list PySem.F.slot_list_pop PySem.F.type_list_pop mtr_pop tyL
  · exact key PySem.F.plainAttrs_list PySem.F.slot_list_reverse PySem.F.type_list_reverse mtr_reverse tyL
  · exact key PySem.F.plainAttrs_dict PySem.F.slot_dict_get PySem.F.type_dict_get (mtr_get hu) tyD
  · exact key PySem.F.plainAttrs_dict PySem.F.slot_dict_pop PySem.F.type_dict_pop (mtr_dpop hu) tyD
/-! ### extend -/
def extM (mo ma : Env → Sto → Rs Pv) (σ : Env) (S : Sto) : Rs Pv := (mo σ S).bind fun p S1 => if p.isLs S1 then (ma σ S1).bind fun q S2 => match q.mutItems S2 with
    | some ys => extP S2 p q ys
    | none => .no
  else .no
def ExR (G : Gx) (W : WX') : V → List V → Hp → VK → Prop := fun x xs H Q => ∃ p q y θ S H₁ H₂, xs = [y] ∧ Sim G θ S H ∧ RepP G H₁ θ H p x ∧ RepP G H₂ θ H q y ∧ Post G W θ H (match q.mutItems S with
    | some ys => extP S p q ys
    | none => .no) Q
theorem mtr_extend : MtR X "list.extend" (ExR (gx X FA) W) := by
  intro pins s τ H x xs v us Q I rx rxs h
  obtain ⟨p, q, y, θ, S, H₁, H₂, rfl, m, rp, rq, h⟩ := h
  split at h <;> first | exact h.elim | skip
  rename_i ys e
  obtain ⟨b, zs, rfl, h4, h5⟩ := mut_of m rq e
  unfold extP at h
  split at h <;> first | exact h.elim | skip
  rename_i l
  obtain ⟨a, h1, rfl⟩ := RepP.r rp
  split at h <;> first | exact h.elim | skip
  rename_i xs e2
  obtain ⟨vs, h2, h3⟩ := m.ob l a _ h1 e2
  split at h <;> first | exact h.elim | skip
  rename_i c
  rw [Bool.and_eq_true] at c
  have c1 := c.1
  simp only [fits, decide_eq_true_eq, lim_line, List.length_append] at c1
  refine mt_extend pins s τ H _ _ v us Q I rx rxs ⟨a, b, vs, zs, rfl, rfl, h2, h5, by rw [h3.length, h4.length]; exact c1, ?_⟩
  exact h.set m h1 (lst_tag h2).1 (lst_tag h2).2 (fun e => ⟨_, upd_same, (h3.ext e).append (h4.ext e)⟩) .non
theorem isLs_ok {p : Pv} {x : V} {H₁ : Hp} (ms' : Sim (gx X FA) θ S H) (rp : RepP (gx X FA) H₁ θ H p x) (h : p.isLs S = true) : okL X x H := on_ok (m := .append) ms' rp h
theorem sE_ext {mo ma : Env → Sto → Rs Pv} (ho : PE X o (tE (gx X FA) W mo)) (ha : PE X e (tE (gx X FA) W ma)) (hr : isRecv o = true) (hp : isPlainE e = true) (hline : (apos.endLine == cpos.line) = true) :
    PE X (.Call (.Attribute o "extend" apos) [e] [] cpos) (tE (gx X FA) W (extM mo ma)) :=
  PE.imp (pe_mN PySem.F.plainAttrs_list PySem.F.slot_list_extend PySem.F.type_list_extend mtr_extend tyL ho (pa_cons ha pa_nil (star_cons hp)) hr hline (fun x hx => by rcases List.mem_singleton.mp hx with rfl; exact hp) (by simp)) fun τ H Q ⟨σ, θ, S, rE, m, h⟩ => by
    refine ⟨σ, θ, S, rE, m, (Post.pbind h).mono fun x H1 ⟨p, θ1, S1, _, e1, m1, r1, h1⟩ => ?_⟩
    split at h1
    · rename_i c
      refine ⟨isLs_ok m1 r1 c, σ, θ1, S1, rE.ext e1, m1, (Post.pbind h1).mono fun y H2 ⟨q, θ2, S2, _, e2, m2, r2, h2⟩ => ?_⟩
      exact ⟨p, q, y, θ2, S2, H, H1, rfl, m2, r1.ext e2, r2, h2⟩
    · exact h1.elim
end
end Nog

set_option Elab.async false
set_option linter.all false
set_option maxRecDepth 100000
set_option maxHeartbeats 1000000
/-! items set; op=; dict displays; tuples and lists of ranges -/
namespace Nog
open PySem L2 PyProof.Rows
section
variable {X : Cx} {FA : Nat → Option Addr} {W : WX'} {pos : Pos} {θ : List Addr} {pins : List (Addr × Obj)} {s : Shared} {τ : L2.St} {H : Hp} {S : Sto}
/-! ### an item is set -/
def PutR (G : Gx) : TSet := fun o i v H Q => ∃ θ S l k d S', Sim G θ S H ∧ Rep G θ H (.ref l) o ∧ Rep G θ H k i ∧ Rep G θ H d v ∧ putDP l k d S = .ok () S' ∧ ∀ H', Ext G θ H θ H' → Sim G θ S' H' → Q H'
theorem set_P (hu : RoomC X.A) : PSet X (PutR (gx X FA)) := by
  intro pins s τ H o i v ov iv u Q I ro ri rv ⟨θ, S, l, k, d, S', m, r1, r2, r3, e, q⟩
  obtain ⟨a, h1, rfl⟩ := Rep.ref_inv r1
  unfold putDP at e
  split at e
  · rename_i xs hS
    obtain ⟨vs, h2, h3⟩ := m.ob l a _ h1 hS
    split at e <;> first | (cases e; done) | skip
    rename_i j
    rw [Rep] at r2
    subst r2
    split at e <;> first | (cases e; done) | skip
    rename_i n hn
    cases e
    have ee : Ext (gx X FA) θ H θ (upd H a (.lst (vs.set n v))) := .write (mem_ix.mpr ⟨l, h1⟩) (lst_tag h2).1 (lst_tag h2).2
    refine set_list pins s τ H _ _ v ov iv u Q I ro ri rv ⟨a, vs, j, n, rfl, rfl, h2, by rw [h3.length]; exact hn, q _ ee ?_⟩
    exact m.write h1 ee ⟨_, upd_same, (h3.ext ee).set (r3.ext ee) n⟩
  · rename_i kvs hS
    obtain ⟨hn, es, h2, h3⟩ := m.ob l a _ h1 hS
    split at e <;> first | (cases e; done) | skip
    rename_i c
    simp only [Bool.and_eq_true, decide_eq_true_eq] at c
    cases e
    obtain ⟨⟨ks, rfl⟩, _⟩ := okKey_inv c.1
    obtain ⟨b, _, rfl, _⟩ := Rep.tup_inv r2
    cases ro
    cases ri
    have h2' : H a = some (.ext (DictAt X.w a es)) := h2
    have ee : Ext (gx X FA) θ H θ (upd H a (.ext (DictAt X.w a (putE (D.nk (.tup ks)) b v es)))) := .write (mem_ix.mpr ⟨l, h1⟩) (ext_tag h2').1 (ext_tag h2').2
    refine dict_put hu I h2 h3 hn c.1 r2 (d := d) rfl (by rw [h3.length]; exact Nat.lt_of_lt_of_eq c.2 lim_line) rv r3 (q _ ee ?_)
    exact m.write h1 ee (ObR.put h3 hn c.1 r2 r3 ee)
  · cases e
theorem put_read {σ : Env} {q r : Pv} {d : Nog.D} {x y v : V} {D : Ends} {H₁ H₂ : Hp} (rE : RepE (gx X FA) θ H σ τ) (m : Sim (gx X FA) θ S H) (r1 : RepP (gx X FA) H₁ θ H q x) (r2 : RepP (gx X FA) H₂ θ H r y) (r3 : Rep (gx X FA) θ H d v)
    (h : PostS (gx X FA) W θ H ((putQ q r d S).st σ fun _ S5 => .nx σ S5) D) : PutR (gx X FA) x y v H fun H3 => D.nx τ H3 := by
  cases q <;> first | exact h.elim | skip
  rename_i q
  cases q <;> first | exact h.elim | skip
  rename_i l
  cases r <;> first | exact h.elim | skip
  rename_i k
  replace h : PostS (gx X FA) W θ H ((putDP l k d S).st σ fun _ S5 => .nx σ S5) D := h
  cases e : putDP l k d S with
  | no => rw [e] at h; exact h.elim
  | ex x S' => exfalso; revert e; unfold putDP; repeat' split
               all_goals (intro e; cases e)
  | ok _ S' =>
    rw [e] at h
    exact ⟨θ, S, l, k, d, S', m, r1, r2, r3, e, fun H' ee m' => h θ H' τ ee m' (rE.ext ee)⟩
variable {o i e : Expr} {mo mi me : Env → Sto → Rs Pv} {tpos : Pos}
theorem asg_sub {v : Value} {env : PySem.Env} (hp : isPlainE i = true) : assign (.Subscript o i pos) env v = (do
      let ov ← holding [v] (eval o env)
      let iv ← holding [v, ov] (eval i env)
      standAt pos
      holding [v, ov, iv] (setItem ov iv v)
      release [v, ov, iv] []) := by
  cases i <;> first | rfl | cases hp
theorem sS_put (hu : RoomC X.A) (ho : PE X o (tE (gx X FA) W mo)) (hi : PE X i (tE (gx X FA) W mi)) (he : PE X e (tE (gx X FA) W me)) (hp : isPlainE i = true)
    (hs : swapsWithSole [.Subscript o i tpos] e pos.line X.env = pure false) (hw : swappedStores [.Subscript o i tpos] e X.env = pure none) :
    PS X (.Assign [.Subscript o i tpos] e pos) (tS (gx X FA) W fun σ S => (me σ S).st σ fun p S1 => (p.toVal S1).st σ fun v S2 => (mo σ S2).st σ fun q S3 => (mi σ S3).st σ fun r S4 => (putQ q r v S4).st σ fun _ S5 => .nx σ S5) :=
  PS.imp (ps_asg he (pg_sub ho hi (set_P (FA := FA) hu) fun v => asg_sub hp) hs hw rfl) fun D τ H ⟨σ, θ, S, rE, m, h⟩ => by
    refine ⟨σ, θ, S, rE, m, h.val.mono fun v H1 ⟨d, θ2, S2, e2, m2, r2, h2⟩ => ?_⟩
    refine ⟨σ, θ2, S2, rE.ext e2, m2, Post.iff.mpr ((PostS.st (R := RepP (gx X FA) H1) (PostS.rebase e2 h2)).mono fun x H2 ⟨q, θ3, S3, _, e3, m3, r3, h3⟩ => ?_)⟩
    refine ⟨σ, θ3, S3, (rE.ext e2).ext e3, m3, Post.iff.mpr ((PostS.st (R := RepP (gx X FA) H2) (PostS.rebase e3 h3)).mono fun y H3 ⟨r, θ4, S4, _, e4, m4, r4, h4⟩ => ?_)⟩
    exact put_read (((rE.ext e2).ext e3).ext e4) m4 (r3.ext e4) r4 ((r2.ext e3).ext e4) (PostS.rebase e4 h4)
/-! ### op= -/
def augX : Op → Operator
  | .add => .Add
  | _ => .Sub
def augF (o : Op) (i j : Int) : Int := match o with
  | .add => i + j
  | _ => i - j
theorem pip_of {o : Op} (h : o = .add ∨ o = .sub) : PIp X (augX o) (ipI (augF o)) := by
  rcases h with rfl | rfl
  · exact ip_add
  · exact ip_sub
theorem augK_some {o : Op} {x : Nog.D} {q : Pv} {n : Int} (h : augK o x q = some n) : ∃ i j, x = .int i ∧ q = .val (.int j) ∧ n = augF o i j := by
  unfold augK at h
  split at h <;> first | (cases h; done) | skip
  rename_i i j
  split at h <;> first | (cases h; done) | skip
  · cases h; exact ⟨i, j, rfl, rfl, rfl⟩
  · cases h; exact ⟨i, j, rfl, rfl, rfl⟩
theorem sS_aug {op : Op} (hop : op = .add ∨ op = .sub) {k : Nat} {x : Str} (hN : X.N.Nodup) (hi : X.N[k]? = some x) (hx : Loc X.env.scope x) (hf : X.fn x = true ∨ X.env.scope.names.lookup x = some .local) (he : PE X e (tE (gx X FA) W me)) :
    PS X (.AugAssign (.Name x tpos) (augX op) e pos) (tS (gx X FA) W fun σ S => match σ[k]? with
    | some (some d) => (me σ S).st σ fun q S1 => (match augK op d q with
      | some n => Sr.nx (σ.set k (some (.int n))) S1
      | none => .no)
    | _ => .no) :=
  PS.imp (ps_aug hN hi hx he (pip_of hop) hf) fun D τ H ⟨σ, θ, S, rE, m, h⟩ => by
    dsimp only at h
    split at h <;> first | exact h.elim | skip
    rename_i d hd
    obtain ⟨v, h1, h2⟩ := rE.at_ k d hd
    refine ⟨v, h1, σ, θ, S, rE, m, Post.iff.mpr ((PostS.st (R := RepP (gx X FA) H) h).mono fun y H1 ⟨q, θ1, S1, _, e1, m1, r1, h3⟩ => ?_)⟩
    split at h3 <;> first | exact h3.elim | skip
    rename_i n hn
    obtain ⟨i, j, rfl, rfl, rfl⟩ := augK_some hn
    rw [Rep] at h2
    obtain rfl := RepP.i r1
    exact ⟨i, j, h2, rfl, h3 θ1 H1 _ e1 m1 ((rE.ext e1).set k .int)⟩
def GetR (G : Gx) : V → V → Hp → VK → Prop := fun o i H Q => ∃ θ S l k d, Sim G θ S H ∧ Rep G θ H (.ref l) o ∧ Rep G θ H k i ∧ ixP S (.val (.ref l)) (.val k) = some d ∧ ∀ v, Rep G θ H d v → Q v H
theorem get_P (hu : RoomC X.A) : PGet X (GetR (gx X FA)) := by
  intro pins s τ H o i ov iv Q I ro ri ⟨θ, S, l, k, d, m, r1, r2, e, q⟩
  obtain ⟨a, h1, rfl⟩ := Rep.ref_inv r1
  simp only [ixP] at e
  split at e <;> first | (cases e; done) | skip
  · rename_i xs hS
    obtain ⟨vs, h2, h3⟩ := m.ob l a _ h1 hS
    split at e <;> first | (cases e; done) | skip
    rename_i j
    rw [Rep] at r2
    subst r2
    obtain ⟨w, h4, h5⟩ := atI_of h3 e
    cases ro
    obtain ⟨t, rfl⟩ := ri
    obtain ⟨its, r, pl, hz⟩ := I.list (.of h2)
    obtain ⟨n, g1, g2, g3, g4, g5⟩ := atI_get h4
    obtain ⟨u, ew, rw'⟩ := r.get g2
    have hl := r.length
    have hn := line63
    have fin : EP X pins τ Q u s := ⟨w, H, I, rw', q w h5⟩
    by_cases h0 : 0 ≤ j
    · have hj : j.toNat = n := by
        rw [seqIndex_of h0 g5] at g1
        exact Option.some.inj g1
      exact wpAny_getItem_list pl.isList h0 (by omega) (by rw [hj]; simpa using ew) fin
    · have hj : (j + (its.toArray.size : Int)).toNat = n := by
        rw [seqIndex_neg (by omega) g4] at g1
        rw [List.size_toArray, ← hl]
        exact Option.some.inj g1
      exact wpAny_getItem_list_neg pl.isList (by omega) (by rw [List.size_toArray] <;> omega) (by omega) (by rw [hj]; simpa using ew) fin
  · rename_i lk kvs hS
    obtain ⟨hn, es, h2, h3⟩ := m.ob l a _ h1 hS
    split at e <;> first | (cases e; done) | skip
    rename_i hk
    obtain ⟨⟨ks, rfl⟩, _⟩ := okKey_inv hk
    obtain ⟨b, _, rfl, _⟩ := Rep.tup_inv r2
    cases ro
    cases ri
    exact dict_get hu I h2 h3 hn hk r2 e q
theorem getQ_some {p r : Pv} {d : Nog.D} (h : getQ S p r = some d) : ∃ l k, p = .val (.ref l) ∧ r = .val k ∧ ixP S (.val (.ref l)) (.val k) = some d := by
  unfold getQ at h
  split at h
  · exact ⟨_, _, rfl, rfl, h⟩
  · cases h
theorem aug_store {env : PySem.Env} (hp : isPlainE i = true) (ov iv new : Value) : augStore i ov iv new = (do holding [new, ov, iv] (setItem ov iv new); release [new, ov, iv] []; pure .next) := by
  cases i <;> first | rfl | cases hp
theorem sS_augp {op : Op} (hop : op = .add ∨ op = .sub) (hu : RoomC X.A) (hp : isPlainE i = true) (ho : PE X o (tE (gx X FA) W mo)) (hi : PE X i (tE (gx X FA) W mi)) (he : PE X e (tE (gx X FA) W me)) :
    PS X (.AugAssign (.Subscript o i tpos) (augX op) e pos) (tS (gx X FA) W fun σ S => (mo σ S).st σ fun p S1 => (mi σ S1).st σ fun r S2 => match getQ S2 p r with
    | some x => (me σ S2).st σ fun q S3 => (match augK op x q with
      | some n => (putQ p r (.int n) S3).st σ fun _ S4 => Sr.nx σ S4
      | none => .no)
    | none => .no) :=
  PS.imp (ps_augS ho hi (get_P (FA := FA) hu) he (pip_of hop) (set_P (FA := FA) hu) (aug_store (env := X.env) hp)) fun D τ H ⟨σ, θ, S, rE, m, h⟩ => by
    refine ⟨σ, θ, S, rE, m, Post.iff.mpr ((PostS.st (R := RepP (gx X FA) H) h).mono fun x H1 ⟨p, θ1, S1, _, e1, m1, r1, h1⟩ => ?_)⟩
    refine ⟨σ, θ1, S1, rE.ext e1, m1, Post.iff.mpr ((PostS.st (R := RepP (gx X FA) H1) (PostS.rebase e1 h1)).mono fun y H2 ⟨r, θ2, S2, _, e2, m2, r2, h2⟩ => ?_)⟩
    split at h2 <;> first | exact h2.elim | skip
    rename_i x0 hx
    obtain ⟨l, k, rfl, rfl, hx⟩ := getQ_some hx
    refine ⟨θ2, S2, l, k, x0, m2, Rep.ext e2 r1, r2, hx, fun v0 rv => ?_⟩
    refine ⟨σ, θ2, S2, (rE.ext e1).ext e2, m2, Post.iff.mpr ((PostS.st (R := RepP (gx X FA) H2) (PostS.rebase e2 h2)).mono fun z H3 ⟨q, θ3, S3, _, e3, m3, r3, h3⟩ => ?_)⟩
    split at h3 <;> first | exact h3.elim | skip
    rename_i n hn
    obtain ⟨i, j, rfl, rfl, rfl⟩ := augK_some hn
    rw [Rep] at rv
    subst rv
    obtain rfl := RepP.i r3
    exact ⟨i, j, rfl, rfl, put_read (q := .val (.ref l)) (r := .val k) (H₁ := H3) (H₂ := H3) (((rE.ext e1).ext e2).ext e3) m3 (Rep.ext e3 (Rep.ext e2 r1)) (Rep.ext e3 r2) .int (PostS.rebase e3 h3)⟩
end
end Nog

set_option Elab.async false
set_option linter.all false
set_option maxRecDepth 100000
set_option maxHeartbeats 1000000
/-! calls of built-in functions; dict displays -/
namespace Nog
open PySem L2 PyProof.Rows
theorem boots : bootBuiltins "len" = some (.builtin "len") ∧ bootBuiltins "sum" = some (.builtin "sum") ∧ bootBuiltins "max" = some (.builtin "max") ∧ bootBuiltins "min" = some (.builtin "min") ∧ bootBuiltins "sorted" = some (.builtin "sorted") ∧
    bootBuiltins "abs" = some (.builtin "abs") ∧ bootBuiltins "isinstance" = some (.builtin "isinstance") ∧ bootBuiltins "tuple" = some (.type "tuple") ∧ bootBuiltins "list" = some (.type "list") ∧ bootBuiltins "dict" = some (.type "dict") ∧ bootBuiltins "int" = some (.type "int") ∧
    bootBuiltins "bool" = some (.type "bool") ∧ bootBuiltins "str" = some (.type "str") := by decide +kernel
section
variable {X : Cx} {FA : Nat → Option Addr} {W : WX'} {pos p : Pos} {θ : List Addr} {pins : List (Addr × Obj)} {s : Shared} {τ : L2.St} {H : Hp} {S : Sto} {a b e : Expr} {ma mb me : Env → Sto → Rs Pv}
/-- the built-in functions of one argument -/
def b1N : Bi → Option (Str × Value)
  | .len => some ("len", .builtin "len")
  | .sum => some ("sum", .builtin "sum")
  | .max => some ("max", .builtin "max")
  | .min => some ("min", .builtin "min")
  | .sorted => some ("sorted", .builtin "sorted")
  | .abs => some ("abs", .builtin "abs")
  | .tuple => some ("tuple", .type "tuple")
  | .list => some ("list", .type "list")
  | .dict => some ("dict", .type "dict")
  | .int => some ("int", .type "int")
  | _ => none
theorem sE_b1 {bi : Bi} {x : Str} {f : Value} (hc : X.calm = true) (hu : RoomC X.A) (hb : b1N bi = some (x, f)) (hg : Gl X x) (hm : X.mg x = none) (hp : isPlainE a = true) (ha : PE X a (tE (gx X FA) W ma)) :
    PE X (.Call (.Name x p) [a] [] pos) (tE (gx X FA) W fun σ S => (ma σ S).bind fun p S1 => bi1 bi S1 p) := by
  obtain ⟨h1, h2, h3, h4, h5, h6, h7, h8, h9, h10, h11, _⟩ := boots
  have ra := pa_cons (X := X) ha pa_nil (star_cons hp)
  have he := star_cons (es := []) (env := X.env) hp
  have hpl : (backTo pos (starEach [] X.env)).any (·.1) = false := rfl
  have fin : ∀ (r : List V → Hp → VK → Prop), (∀ vs H Q, (∃ x, vs = [x] ∧ K1 (gx X FA) W (fun p S => bi1 bi S p) x H Q) → r vs H Q) → ∀ τ H Q, tE (gx X FA) W (fun σ S => (ma σ S).bind fun p S1 => bi1 bi S1 p) τ H Q → tCB r (tCons (tE (gx X FA) W ma) tNil) τ H Q := fun r hr τ H Q h => by
    obtain ⟨σ, θ, S, rE, m, h⟩ := one h
    exact ⟨σ, θ, S, rE, m, h.mono fun x H1 h1 => hr _ _ _ ⟨x, rfl, h1⟩⟩
  cases bi <;> first | (cases hb; done) | (cases hb)
  · exact PE.imp (pe_callB cr_len hg hm h1 ra (by decide) (by decide) he hpl) (fin _ fun _ _ _ h => h)
  · exact PE.imp (pe_callB (cr_sumP hc) hg hm h2 ra (by decide) (by decide) he hpl) (fin _ fun _ _ _ h => h)
  · exact PE.imp (pe_callB (cr_max hc hu) hg hm h3 ra (by decide) (by decide) he hpl) (fin _ fun _ _ _ h => h)
  · exact PE.imp (pe_callB (cr_min hc hu) hg hm h4 ra (by decide) (by decide) he hpl) (fin _ fun _ _ _ h => h)
  · exact PE.imp (pe_callB (cr_sorted hc hu) hg hm h5 ra (by decide) (by decide) he hpl) (fin _ fun _ _ _ h => h)
  · exact PE.imp (pe_callTy cr_tuple hg hm h8 ra (by decide) (by decide) he hpl) (fin _ fun _ _ _ h => h)
  · exact PE.imp (pe_callTy (cr_list hc) hg hm h9 ra (by decide) (by decide) he hpl) (fin _ fun _ _ _ h => h)
  · exact PE.imp (pe_callTy (cr_dict hc hu) hg hm h10 ra (by decide) (by decide) he hpl) (fin _ fun _ _ _ h => h)
  · exact PE.imp (pe_callB cr_abs hg hm h6 ra (by decide) (by decide) he hpl) (fin _ fun _ _ _ h => h)
  · exact PE.imp (pe_callTy cr_int hg hm h11 ra (by decide) (by decide) he hpl) (fin _ fun _ _ _ h => h)
/-- .. of two -/
def b2N : Bi → Option Str
  | .max => some "max"
  | .min => some "min"
  | _ => none
theorem two_read {bi : Bi} {r : List V → Hp → VK → Prop} (hr : ∀ vs H Q, (∃ x y, vs = [x, y] ∧ K2 (gx X FA) W (bi2P bi) x y H Q) → r vs H Q) (τ : L2.St) (H : Hp) (Q : VK) (h : tE (gx X FA) W (fun σ S => (ma σ S).bind fun p S1 => (mb σ S1).bind fun q S2 => bi2P bi p q S2) τ H Q) :
    tCB r (tCons (tE (gx X FA) W ma) (tCons (tE (gx X FA) W mb) tNil)) τ H Q := by
  obtain ⟨σ, θ, S, rE, m, h⟩ := two h
  refine ⟨σ, θ, S, rE, m, h.mono fun x H1 ⟨σ1, θ1, S1, rE1, m1, h1⟩ => ⟨σ1, θ1, S1, rE1, m1, h1.mono fun y H2 h2 => hr _ _ _ ⟨x, y, rfl, h2⟩⟩⟩
theorem plain_one {env : PySem.Env} {pos : Pos} (hp : isPlainE b = true) : (backTo pos (starEach [b] env)).any (·.1) = false := star_plain fun x hx => by rcases List.mem_singleton.mp hx with rfl; exact hp
theorem sE_b2 {bi : Bi} {x : Str} (hc : X.calm = true) (hb : b2N bi = some x) (hg : Gl X x) (hm : X.mg x = none) (hp : isPlainE a = true) (hq : isPlainE b = true) (ha : PE X a (tE (gx X FA) W ma)) (hb' : PE X b (tE (gx X FA) W mb)) :
    PE X (.Call (.Name x p) [a, b] [] pos) (tE (gx X FA) W fun σ S => (ma σ S).bind fun p S1 => (mb σ S1).bind fun q S2 => bi2P bi p q S2) := by
  obtain ⟨h1, h2, h3, h4, h5, h6, h7, h8, h9, h10, h11, _⟩ := boots
  have ra := pa_cons (X := X) ha (pa_cons hb' pa_nil (star_cons hq)) (star_cons hp)
  have he := star_cons (es := [b]) (env := X.env) hp
  cases bi <;> first | (cases hb; done) | (cases hb)
  · exact PE.imp (pe_callB (cr_max2P hc) hg hm h3 ra (by decide) (by decide) he (plain_one hq)) (two_read fun _ _ _ h => h)
  · exact PE.imp (pe_callB (cr_min2P hc) hg hm h4 ra (by decide) (by decide) he (plain_one hq)) (two_read fun _ _ _ h => h)
theorem sE_gcd {x : Str} (hg : Gl X x) (hm : X.mg x = some (.builtin "math.gcd")) (hdb : (x == ("__debug__" : Str)) = false) (hp : isPlainE a = true) (hq : isPlainE b = true) (ha : PE X a (tE (gx X FA) W ma)) (hb' : PE X b (tE (gx X FA) W mb)) :
    PE X (.Call (.Name x p) [a, b] [] pos) (tE (gx X FA) W fun σ S => (ma σ S).bind fun p S1 => (mb σ S1).bind fun q S2 => bi2P .gcd p q S2) :=
  PE.imp (pe_callBfun cr_gcdP hg hm (pa_cons ha (pa_cons hb' pa_nil (star_cons hq)) (star_cons hp)) hdb (star_cons hp) (plain_one hq)) (two_read fun _ _ _ h => h)
theorem sE_lcm {x : Str} (hg : Gl X x) (hm : X.mg x = some (.builtin "math.lcm")) (hdb : (x == ("__debug__" : Str)) = false) (hp : isPlainE a = true) (hq : isPlainE b = true) (ha : PE X a (tE (gx X FA) W ma)) (hb' : PE X b (tE (gx X FA) W mb)) :
    PE X (.Call (.Name x p) [a, b] [] pos) (tE (gx X FA) W fun σ S => (ma σ S).bind fun p S1 => (mb σ S1).bind fun q S2 => bi2P .lcm p q S2) :=
  PE.imp (pe_callBfun cr_lcmP hg hm (pa_cons ha (pa_cons hb' pa_nil (star_cons hq)) (star_cons hp)) hdb (star_cons hp) (plain_one hq)) (two_read fun _ _ _ h => h)
/-- max(.., default=..) -/
def mxP (bi : Bi) (p q : Pv) (S : Sto) : Rs Pv := match q with
  | .val d => mxdP bi S p d
  | _ => .no
theorem sE_mxd {bi : Bi} {x : Str} {nm : Str} {kp : Pos} (hc : X.calm = true) (hu : RoomC X.A) (hb : b2N bi = some x) (hnm : nm = "default") (hg : Gl X x) (hm : X.mg x = none) (hp : isPlainE a = true) (ha : PE X a (tE (gx X FA) W ma)) (hb' : PE X b (tE (gx X FA) W mb)) :
    PE X (.Call (.Name x p) [a] [⟨some nm, b, kp⟩] pos) (tE (gx X FA) W fun σ S => (ma σ S).bind fun p S1 => (mb σ S1).bind fun q S2 => mxP bi p q S2) := by
  obtain ⟨h1, h2, h3, h4, h5, h6, h7, h8, h9, h10, h11, _⟩ := boots
  subst hnm
  have ra := pa_cons (X := X) ha pa_nil (star_cons hp)
  have rk := pk_cons (X := X) (nm := some "default") (kpos := kp) hb' pk_nil
  have he : backTo pos (starEach [a] X.env) = (false, eval a X.env) :: backTo pos (starEach [] X.env) := by rw [star_cons hp]; rfl
  have fin : ∀ (r : List V → List V → Hp → VK → Prop), (∀ vs zs H Q, (∃ x y, vs = [x] ∧ zs = [y] ∧ K2 (gx X FA) W (mxP bi) x y H Q) → r vs zs H Q) → ∀ τ H Q, tE (gx X FA) W (fun σ S => (ma σ S).bind fun p S1 => (mb σ S1).bind fun q S2 => mxP bi p q S2) τ H Q →
      tCKw r (tCons (tE (gx X FA) W ma) tNil) (tCons (tE (gx X FA) W mb) tNil) τ H Q := fun r hr τ H Q h => by
    obtain ⟨σ, θ, S, rE, m, h⟩ := two h
    exact ⟨σ, θ, S, rE, m, h.mono fun x H1 ⟨σ1, θ1, S1, rE1, m1, h1⟩ => ⟨σ1, θ1, S1, rE1, m1, h1.mono fun y H2 h2 => hr _ _ _ _ ⟨x, y, rfl, rfl, h2⟩⟩⟩
  cases bi <;> first | (cases hb; done) | (cases hb)
  · exact PE.imp (pe_callBK (cr_maxd hc hu) hg hm h3 ra rk (by decide) (by decide) he (plain_one hp) rfl rfl rfl) (fin _ fun _ _ _ _ h => h)
  · exact PE.imp (pe_callBK (cr_mind hc hu) hg hm h4 ra rk (by decide) (by decide) he (plain_one hp) rfl rfl rfl) (fin _ fun _ _ _ _ h => h)
/-- isinstance(.., a type) -/
theorem sE_isi {t : Ty} {n : String} {y : Str} {p2 : Pos} (ht : tyN t = some n) (hy : bootBuiltins y = some (.type n)) (hyn : y ≠ "__name__") (hyd : (y == ("__debug__" : Str)) = false) (hg : Gl X "isinstance") (hm : X.mg "isinstance" = none) (hg2 : Gl X y) (hm2 : X.mg y = none) (hp : isPlainE a = true) (ha : PE X a (tE (gx X FA) W ma)) :
    PE X (.Call (.Name "isinstance" p) [a, .Name y p2] [] pos) (tE (gx X FA) W fun σ S => (ma σ S).bind fun p S1 => blR S1 (isiP S1 p t)) := by
  obtain ⟨h1, h2, h3, h4, h5, h6, h7, h8, h9, h10, h11, _⟩ := boots
  have pt : PE X (.Name y p2) (tC (.ty n)) := pe_bltn hg2 hm2 hy rfl hyn hyd
  refine PE.imp (pe_callB (cr_isi (FA := FA) (W := W) ht) hg hm h7 (pa_cons ha (pa_cons pt pa_nil rfl) (star_cons hp)) (by decide) (by decide) (star_cons hp) rfl) fun τ H Q h => ?_
  obtain ⟨σ, θ, S, rE, m, h⟩ := one h
  exact ⟨σ, θ, S, rE, m, h.mono fun x H1 h1 => ⟨x, rfl, h1⟩⟩
/-! ### tuple(range(..)), list(range(..)) -/
theorem rg_rep {G : Gx} : ∀ (n : Nat) (lo : Int), RepL G θ H (intsD lo n) ((List.range n).map fun i => V.int (lo + (i : Nat)))
  | 0, _ => .nil
  | n + 1, lo => by
    rw [intsD, List.range_succ_eq_map, List.map_cons, List.map_map]
    refine .cons (by simpa using Rep.int) ?_
    have := rg_rep (G := G) n (lo + 1)
    have e : ((fun i : Nat => V.int (lo + (i : Nat))) ∘ Nat.succ) = fun i : Nat => V.int (lo + 1 + (i : Nat)) := by
      funext i
      simp only [Function.comp]
      congr 1
      omega
    rw [e]
    exact this
def tRg (G : Gx) (W : WX') (m : Env → Sto → Rs Pv) : L2.St → Hp → (Int → Int → Hp → Prop) → Prop := fun τ H Q => ∃ σ θ S, RepE G θ H σ τ ∧ Sim G θ S H ∧ PostR G W θ H (fun _ _ p (ab : Int × Int) => p = .rng ab.1 ab.2 ∧ RgOk ab.1 ab.2) (m σ S) fun ab H1 => Q ab.1 ab.2 H1
theorem PRg.imp {t t' : L2.St → Hp → (Int → Int → Hp → Prop) → Prop} (h : PRg X e t) (f : ∀ σ H Q, t' σ H Q → t σ H Q) : PRg X e t' := fun pins s σ H Q I q => h pins s σ H Q I (f σ H Q q)
theorem sR_1 (hg : Gl X "range") (hm : X.mg "range" = none) (hp : isPlainE a = true) (ha : PE X a (tE (gx X FA) W ma)) : PRg X (.Call (.Name "range" p) [a] [] pos) (tRg (gx X FA) W (rg1M ma)) :=
  PRg.imp (prg_1 hg hm ha (star_cons hp)) fun τ H Q ⟨σ, θ, S, rE, m, h⟩ => by
    unfold rg1M at h
    refine ⟨σ, θ, S, rE, m, Post.iff.mpr ((PostR.bind (R := RepP (gx X FA) H) h).mono fun x H1 ⟨p, θ1, S1, _, e1, m1, r1, h1⟩ => ?_)⟩
    split at h1 <;> first | exact h1.elim | skip
    rename_i n _
    split at h1 <;> first | exact h1.elim | skip
    rename_i c
    simp only [Bool.and_eq_true, decide_eq_true_eq] at c
    obtain rfl := RepP.i r1
    have hl : (lim : Int) = 16777216 := rfl
    exact ⟨n, rfl, h1 θ1 H1 (0, n) e1 m1 ⟨rfl, by omega, by omega, by omega, by omega, by omega⟩⟩
theorem sR_2 (hg : Gl X "range") (hm : X.mg "range" = none) (hp : isPlainE a = true) (hq : isPlainE b = true) (ha : PE X a (tE (gx X FA) W ma)) (hb : PE X b (tE (gx X FA) W mb)) : PRg X (.Call (.Name "range" p) [a, b] [] pos) (tRg (gx X FA) W (rg2M ma mb)) :=
  PRg.imp (prg_2 hg hm ha hb (star_cons hp) (star_cons hq) (plain_one hq)) fun τ H Q ⟨σ, θ, S, rE, m, h⟩ => by
    unfold rg2M at h
    refine ⟨σ, θ, S, rE, m, Post.iff.mpr ((PostR.bind (R := RepP (gx X FA) H) h).mono fun x H1 ⟨p, θ1, S1, _, e1, m1, r1, h1⟩ => ?_)⟩
    refine ⟨σ, θ1, S1, rE.ext e1, m1, Post.iff.mpr ((PostR.bind (R := RepP (gx X FA) H1) (PostR.rebase e1 (fun _ _ _ _ q => q) h1)).mono fun y H2 ⟨q, θ2, S2, _, e2, m2, r2, h2⟩ => ?_)⟩
    split at h2 <;> first | exact h2.elim | skip
    rename_i i j _ _ _
    split at h2 <;> first | exact h2.elim | skip
    rename_i c
    simp only [Bool.and_eq_true, decide_eq_true_eq] at c
    obtain rfl := RepP.i r1
    obtain rfl := RepP.i r2
    have hl : (lim : Int) = 16777216 := rfl
    exact ⟨i, j, rfl, rfl, h2 θ2 H2 (i, j) e2 m2 ⟨rfl, by omega, by omega, by omega, by omega, by omega⟩⟩
theorem sE_tupRg (hc : X.calm = true) (hg : Gl X "tuple") (hm : X.mg "tuple" = none) (hp : isPlainE e = true) (he : PRg X e (tRg (gx X FA) W me)) :
    PE X (.Call (.Name "tuple" p) [e] [] pos) (tE (gx X FA) W fun σ S => (me σ S).bind fun p S1 => bi1 .tuple S1 p) :=
  PE.imp (pe_tupRg hc hg hm he (star_cons hp)) fun τ H Q ⟨σ, θ, S, rE, m, h⟩ => by
    refine ⟨σ, θ, S, rE, m, (PostR.bind (R := fun _ _ p (ab : Int × Int) => p = .rng ab.1 ab.2 ∧ RgOk ab.1 ab.2) (Post.iff.mp h)).mono fun ab H1 ⟨q, θ1, S1, _, e1, m1, ⟨eq, ok⟩, h1⟩ => ⟨ok, fun z hz => ?_⟩⟩
    subst eq
    exact (Post.rebase e1 (Post.iff.mpr h1)).newTup m1 (rg_rep _ _) hz
theorem sE_lstRg (hc : X.calm = true) (hg : Gl X "list") (hm : X.mg "list" = none) (hp : isPlainE e = true) (he : PRg X e (tRg (gx X FA) W me)) :
    PE X (.Call (.Name "list" p) [e] [] pos) (tE (gx X FA) W fun σ S => (me σ S).bind fun p S1 => bi1 .list S1 p) :=
  PE.imp (pe_listRg hc hg hm he (star_cons hp)) fun τ H Q ⟨σ, θ, S, rE, m, h⟩ => by
    refine ⟨σ, θ, S, rE, m, (PostR.bind (R := fun _ _ p (ab : Int × Int) => p = .rng ab.1 ab.2 ∧ RgOk ab.1 ab.2) (Post.iff.mp h)).mono fun ab H1 ⟨q, θ1, S1, _, e1, m1, ⟨eq, ok⟩, h1⟩ => ⟨ok, fun z hz => ?_⟩⟩
    subst eq
    exact (Post.rebase e1 (Post.iff.mpr h1)).newLst m1 (rg_rep _ _) hz
end
end Nog

set_option Elab.async false
set_option linter.all false
set_option maxRecDepth 100000
set_option maxHeartbeats 2000000
/-! isinstance of two classes -/
namespace Nog
open PySem L2 PyProof.Rows
section
variable {X : Cx} {FA : Nat → Option Addr} {W : WX'} {pos p : Pos} {θ : List Addr} {pins : List (Addr × Obj)} {s : Shared} {τ : L2.St} {H : Hp} {S : Sto} {a : Expr} {ma : Env → Sto → Rs Pv}
theorem cr_isi2 {t t2 : Ty} {n n2 : String} (ht : tyN t = some n) (ht2 : tyN t2 = some n2) : CallR X (.builtin "isinstance") (fun vs H Q => ∃ x tp, vs = [x, .ref tp] ∧ H tp = some (.tup [.ty n, .ty n2]) ∧ K1 (gx X FA) W (fun p S => blR S (isi2P S p t t2)) x H Q) := by
  intro pins s τ H xs us Q I r h
  obtain ⟨x, tp, rfl, hp, p, θ, S, H₁, m, rp, h⟩ := h
  obtain ⟨u1, u2, rfl, r1, r2⟩ := vals2 r
  cases (show u2 = Value.ref tp from r2)
  obtain ⟨its, rv, ⟨o, e1, e2, k2, e3⟩, _⟩ := I.tuple (.of hp)
  obtain ⟨v1, v2, rfl, q1, q2⟩ := vals2 rv
  cases (show v1 = Value.type n from q1)
  cases (show v2 = Value.type n2 from q2)
  cases e : isi2P S p t t2 with
  | none => simp only [e] at h; exact h.elim
  | some b =>
    simp only [e] at h
    obtain ⟨k, k1, k2⟩ := Option.bind_eq_some_iff.mp e
    obtain ⟨P, Z, q, hx⟩ := kit_rep I m r1 rp k1
    obtain ⟨cl, dd, da, sl⟩ := o
    simp only at e2 e3
    subst e2 e3
    refine PySem.W.kia_tup Z I.kIn q e1 ?_ hx fun tk => ⟨.bl b, H, I.tok tk, rfl, h.bl m⟩
    unfold kd2 at k2
    split at k2
    · rename_i h1
      cases k2
      exact kitAny_cons (kit_ty (kdTy_kit ht h1)) (fun h => by cases h) (fun _ => rfl)
    · rename_i h1
      refine kitAny_cons (kit_ty (kdTy_kit ht h1)) (fun _ => kitAny_cons (kit_ty (kdTy_kit ht2 k2)) (fun h => by rw [h]; exact kitAny_nil) (fun h => h)) (fun h => by cases h)
    · cases k2
/-- isinstance(.., (a type, a type)) -/
theorem sE_isi2 {t t2 : Ty} {n n2 : String} {y y2 : Str} {p2 p3 pt : Pos} {k : Nat} (ht : tyN t = some n) (hy : bootBuiltins y = some (.type n)) (hyn : y ≠ "__name__") (hyd : (y == ("__debug__" : Str)) = false) (ht2 : tyN t2 = some n2) (hy2 : bootBuiltins y2 = some (.type n2)) (hyn2 : y2 ≠ "__name__") (hyd2 : (y2 == ("__debug__" : Str)) = false) (hg : Gl X "isinstance") (hm : X.mg "isinstance" = none) (hg2 : Gl X y) (hm2 : X.mg y = none) (hg3 : Gl X y2) (hm3 : X.mg y2 = none) (hp : isPlainE a = true) (ha : PE X a (tE (gx X FA) W ma)) :
    PE X (.Call (.Name "isinstance" p) [a, .Tuple [.Name y p2, .Name y2 p3] k pt] [] pos) (tE (gx X FA) W fun σ S => (ma σ S).bind fun p S1 => blR S1 (isi2P S1 p t t2)) := by
  obtain ⟨h1, h2, h3, h4, h5, h6, h7, h8, h9, h10, h11, _⟩ := boots
  have pt1 : PE X (.Name y p2) (tC (.ty n)) := pe_bltn hg2 hm2 hy rfl hyn hyd
  have pt2 : PE X (.Name y2 p3) (tC (.ty n2)) := pe_bltn hg3 hm3 hy2 rfl hyn2 hyd2
  refine PE.imp (pe_callB (cr_isi2 (FA := FA) (W := W) ht ht2) hg hm h7 (pa_cons ha (pa_cons (pe_tup (pa_cons pt1 (pa_cons pt2 pa_nil rfl) rfl)) pa_nil rfl) (star_cons hp)) (by decide) (by decide) (star_cons hp) rfl) fun τ H Q h => ?_
  obtain ⟨σ, θ, S, rE, m, h⟩ := one h
  refine ⟨σ, θ, S, rE, m, h.mono fun x H1 h1 => ⟨by rw [sizeLine_eq]; simp, fun q hq => ⟨x, q, rfl, upd_same, ?_⟩⟩⟩
  obtain ⟨p0, θ0, S0, H₀, m0, r0, g0⟩ := h1
  exact ⟨p0, θ0, S0, H₀, m0.new hq, r0.ext (.new hq), Post.rebase (.new hq) g0⟩
end
end Nog

set_option Elab.async false
set_option linter.all false
set_option maxRecDepth 100000
set_option maxHeartbeats 1000000
/-! dict displays; pairs of names set -/
namespace Nog
open PySem L2 PyProof.Rows
section
variable {X : Cx} {FA : Nat → Option Addr} {W : WX'} {pos p : Pos} {θ : List Addr} {pins : List (Addr × Obj)} {s : Shared} {τ : L2.St} {H : Hp} {S : Sto} {a b e : Expr} {ma mb me : Env → Sto → Rs Pv}
theorem sE_dc0 : PE X (.Dict [] [] pos) (tE (gx X FA) W fun _ S => .ok (.val (.ref S.length)) (S ++ [.dct false []])) := by
  refine ⟨fun pins s σ H Q I ⟨σ', θ, S, rE, m, h⟩ => ?_⟩
  refine wpAny_Dict_empty ⟨.ref s.heap.objs.size, _, dict_new I, rfl, ?_⟩
  have hf : H s.heap.objs.size = none := I.hok.fresh (Nat.le_refl _)
  exact h.newObj m hf ⟨by simp, [], upd_same, .nil⟩
def tDc1 (G : Gx) (tk tv : TE) : TE := fun σ H Q => ∀ D, H D = none → tk σ (upd H D (.ext (DictAt G.w D []))) fun y H1 => tv σ H1 fun z H2 => PutOk G D H2 y z fun H3 => Q (.ref D) H3
theorem pe_dc1 {k v : Expr} {tk tv : TE} (hu : RoomC X.A) (hk : PE X k tk) (hv : PE X v tv) : PE X (.Dict [some k] [v] pos) (tDc1 (gx X FA) tk tv) := by
  refine ⟨fun pins s σ H Q I h => ?_⟩
  rw [arm_eval_Dict, zip_pairTrees [some k] [v] X.env pos rfl rfl, dictDisplay_pairs _ (by simp [pairTrees]) (by simp [pairTrees])]
  refine wpAny_bind (wpAny_standAt (wpAny_bind ?_))
  unfold subDict
  refine wpAny_bind (wpAny_alloc (wpAny_bind (wpAny_holding ?_)))
  have hf : H s.heap.objs.size = none := I.hok.fresh (Nat.le_refl _)
  have q := h s.heap.objs.size hf
  have I1 := dict_new I
  generalize hD : s.heap.objs.size = D at q I1 ⊢
  rw [if_pos (by simp [pairTrees])]
  refine wpAny_bind (pairTrees_cons_walk (thn (hk.run pins _ σ _ _ I1 q) fun u s1 ⟨y, H1, I2, r1, q1⟩ => thn (hv.run pins s1 σ H1 _ I2 q1) fun w2 s2 ⟨z, H2, I3, r2, q2⟩ => pairTrees_nil_walk ?_))
  refine wpAny_holding ?_
  dsimp only
  rw [List.forIn_cons]
  refine wpAny_bind (wpAny_bind (wpAny_bind (d_put hu I3 r1 r2 q2 fun s' H' I' n => wpAny_pure ?_)))
  show wpAny _ _ (forIn [] PUnit.unit _) _ _ _
  rw [List.forIn_nil]
  exact wpAny_pure (wpAny_pure (wpAny_pure (wpAny_pure ⟨.ref D, H', I', rfl, n⟩)))
theorem Ext.ownD {G : Gx} {θ1 θ5 : List Addr} {H1 H4 : Hp} {D : Addr} {φ : Heap → Prop} {o : HO} (e : Ext G θ1 H1 θ5 H4) (h0 : H1 D = none) (h1 : H4 D = some (.ext φ)) : Ext G θ1 H1 θ5 (upd H4 D o) ∧ Ext0 G θ5 H4 θ5 (upd H4 D o) := by
  have e0 : Ext0 G θ5 H4 θ5 (upd H4 D o) := ⟨fun _ _ h => h, fun c vs h => SqT.upd h fun v ev q => (by rw [h1] at ev; cases ev; rcases q with q | ⟨_, q⟩ <;> cases q), fun c vs h => SqF.upd h fun v ev q => (by rw [h1] at ev; cases ev; obtain ⟨_, q⟩ := q; cases q)⟩
  refine ⟨⟨⟨e.pre, fun c vs h => e0.tp c vs (e.tp c vs h), fun c vs h => e0.fz c vs (e.fz c vs h)⟩, fun c v h n => by rw [upd_ne (ne_of_none h h0)]; exact e.fr c v h n, e.nw, fun c h => ?_, fun c o v h => by rw [upd_ne (ne_of_none h h0)]; exact e.fx c o v h⟩, e0⟩
  by_cases z : c = D
  · rw [z]; exact h0
  · rw [upd_ne z] at h; exact e.up c h
def dc1M (mk mv : Env → Sto → Rs Pv) (σ : Env) (S : Sto) : Rs Pv := (mk σ S).bind fun p S1 => (mv σ S1).bind fun q S2 => (q.toVal S2).bind fun d S3 => match p with
    | .val kd => if okKey kd then .ok (.val (.ref S3.length)) (S3 ++ [.dct false [(kd, d)]]) else .no
    | _ => .no
/-- a result, then more; what is wanted is told ahead of a change -/
theorem PostR.bindE {G : Gx} {θ θ' : List Addr} {H H' : Hp} {α β γ δ : Type} {R : List Addr → Hp → α → β → Prop} {R' : List Addr → Hp → γ → δ → Prop} {r : Rs α} {k : α → Sto → Rs γ} {Q : δ → Hp → Prop} (e : Ext G θ H θ' H') (h : PostR G W θ H R' (r.bind k) Q) :
    PostR G W θ' H' R r (fun b H1 => ∃ a θ1 S1, r = .ok a S1 ∧ Ext G θ' H' θ1 H1 ∧ Sim G θ1 S1 H1 ∧ R θ1 H1 a b ∧ PostR G W θ H R' (k a S1) Q) := by
  cases r with
  | ok a S => exact fun θ1 H1 b e1 m q => ⟨a, θ1, S, rfl, e1, m, q, h⟩
  | ex x S => exact fun θ1 H1 e1 m => h θ1 H1 (e.trans e1) m
  | no => exact h
theorem sE_dc1 {k v : Expr} {mk mv : Env → Sto → Rs Pv} (hu : RoomC X.A) (hk : PE X k (tE (gx X FA) W mk)) (hv : PE X v (tE (gx X FA) W mv)) : PE X (.Dict [some k] [v] pos) (tE (gx X FA) W (dc1M mk mv)) :=
  PE.imp (pe_dc1 (FA := FA) hu hk hv) fun τ H Q ⟨σ, θ, S, rE, m, h⟩ D hD => by
    have eD : Ext (gx X FA) θ H θ (upd H D (.ext (DictAt X.w D []))) := .new hD
    refine ⟨σ, θ, S, rE.ext eD, m.new hD, Post.iff.mpr ((PostR.bindE (R := RepP (gx X FA) (upd H D (.ext (DictAt X.w D [])))) eD (Post.iff.mp h)).mono fun y H1 ⟨p, θ1, S1, _, e1, m1, r1, h1⟩ => ?_)⟩
    refine ⟨σ, θ1, S1, (rE.ext eD).ext e1, m1, Post.iff.mpr ((PostR.bindE (R := RepP (gx X FA) H1) (eD.trans e1) h1).mono fun z H2 ⟨q, θ2, S2, _, e2, m2, r2, h2⟩ => ?_)⟩
    rcases toVal_ok q S2 with ⟨d, S3, t⟩ | t
    · rw [t] at h2
      obtain ⟨θ3, e3, m3, r3⟩ := toVal_rep e2 m2 r2 t
      cases p with
      | fresh _ => exact h2.elim
      | rng _ _ => exact h2.elim
      | its _ _ => exact h2.elim
      | val kd =>
        replace h2 : PostR (gx X FA) W θ H (RepP (gx X FA) H) (if okKey kd then .ok (.val (.ref S3.length)) (S3 ++ [.dct false [(kd, d)]]) else .no) Q := h2
        split at h2 <;> first | exact h2.elim | skip
        rename_i ok
        obtain ⟨⟨ks, rfl⟩, _⟩ := okKey_inv ok
        have r1' : Rep (gx X FA) θ1 H1 (.tup ks) y := r1
        obtain ⟨b, _, rfl, _⟩ := Rep.tup_inv r1'
        have hDn : D ∉ θ := m.free hD
        have s1 : H1 D = some (.ext (DictAt X.w D [])) ∧ D ∉ θ1 := ⟨e1.fr D _ upd_same hDn, fun z => (e1.nw D z).elim hDn fun q => by rw [upd_same] at q; cases q⟩
        have s3 : H2 D = some (.ext (DictAt X.w D [])) ∧ D ∉ θ3 := ⟨e3.fr D _ s1.1 s1.2, fun z => (e3.nw D z).elim s1.2 fun q => by rw [s1.1] at q; cases q⟩
        refine ⟨θ3, [], [], .tup ks, b, rfl, s3.1, by rw [sizeLine_eq]; decide, .nil, by simp, ok, r1'.ext e3, ?_⟩
        obtain ⟨eF, e0⟩ := Ext.ownD (o := .ext (DictAt X.w D (putE (Nog.D.nk (.tup ks)) b z []))) (eD.trans (e1.trans e3)) hD s3.1
        have m4 := m3.own s3.2 e0
        have rk := (r1'.ext e3).ext0 e0
        have rv := r3.ext0 e0
        refine h2 (θ3 ++ [D]) _ (.ref D) (Ext.join hD eF) (m4.join s3.2 ⟨by simp, _, upd_same, ?_⟩) (show Rep (gx X FA) (θ3 ++ [D]) (upd H2 D (.ext (DictAt X.w D (putE (Nog.D.nk (.tup ks)) b z [])))) (.ref S3.length) (.ref D) from Rep.ref ?_)
        · exact .cons ok rk rv .nil
        · rw [← m3.len, List.getElem?_append_right (Nat.le_refl _), Nat.sub_self]
          rfl
    · rw [t] at h2
      exact h2.elim
/-! ### a, b = x, y -/
theorem sS_par {i j : Nat} {x y : Str} {px py pt spos : Pos} {kt k2 : Nat} {pt2 : Pos} (hc : X.calm = true) (hN : X.N.Nodup) (hi : X.N[i]? = some x) (hj : X.N[j]? = some y) (hij : i ≠ j)
    (hx : X.env.scope.names.lookup x = some .local) (hy : X.env.scope.names.lookup y = some .local) (hp : isPlainE a = true) (hq : isPlainE b = true) (ha : PE X a (tE (gx X FA) W ma)) (hb : PE X b (tE (gx X FA) W mb))
    (hw : swappedStores [.Tuple [.Name x px, .Name y py] kt pt] (.Tuple [a, b] k2 pt2) X.env = pure (some [x, y]))
    (hs : swapsWithSole [.Tuple [.Name x px, .Name y py] kt pt] (.Tuple [a, b] k2 pt2) spos.line X.env = pure false) :
    PS X (.Assign [.Tuple [.Name x px, .Name y py] kt pt] (.Tuple [a, b] k2 pt2) spos) (tS (gx X FA) W fun σ S => (ma σ S).st σ fun p S1 => (p.toVal S1).st σ fun x S2 => (mb σ S2).st σ fun q S3 => (q.toVal S3).st σ fun y S4 => .nx ((σ.set i (some x)).set j (some y)) S4) :=
  PS.imp (ps_par hc hN hi hj hij hx hy (pa_cons ha (pa_cons hb pa_nil (star_cons hq)) (star_cons hp)) hw hs) fun D τ H ⟨σ, θ, S, rE, m, h⟩ => by
    refine ⟨σ, θ, S, rE, m, h.val.mono fun v H1 ⟨d, θ2, S2, e2, m2, r2, h2⟩ => ?_⟩
    refine ⟨σ, θ2, S2, rE.ext e2, m2, (PostS.val (PostS.rebase e2 h2)).mono fun w H2 ⟨d', θ3, S3, e3, m3, r3, h3⟩ => ?_⟩
    exact ⟨v, w, rfl, h3 θ3 H2 _ e3 m3 ((((rE.ext e2).ext e3).set i (r2.ext e3)).set j r3)⟩
end
end Nog

set_option Elab.async false
set_option linter.all false
set_option maxRecDepth 100000
set_option maxHeartbeats 1000000
/-! calls of the program's own functions -/
namespace Nog
open PySem L2 PyProof.Rows
/-- what a def promises: what the evaluator says -/
def spOf (G : Gx) (C : Call) (i n : Nat) : Sp := fun vs H Q _ => vs.length = n ∧ ∃ θ S ds, RepL G θ H ds vs ∧ Sim G θ S H ∧ PostR G WF θ H (fun θ' H' d v => Rep G θ' H' d v) (C i ds S) Q
section
variable {X : Cx} {FA : Nat → Option Addr} {pos p : Pos} {θ : List Addr} {pins : List (Addr × Obj)} {s : Shared} {τ : L2.St} {H : Hp} {S : Sto} {e : Expr} {es : List Expr}
def callM (C : Call) (i : Nat) (ml : Env → Sto → Rs (List Nog.D)) (σ : Env) (S : Sto) : Rs Pv := (ml σ S).bind fun ds S1 => (C i ds S1).bind fun d S2 => .ok (.val d) S2
theorem sE_call {C : Call} {i n k j : Nat} {x : Str} {ml : Env → Sto → Rs (List Nog.D)} (c : C8.Cal X.prog X.w X.K X.mg X.base k x (spOf (gx X FA) C i n) []) (hr : Room j X.A) (hk : k ≤ j) (hg : Gl X x) (hd : (x == ("__debug__" : Str)) = false)
    (hp : ∀ y ∈ e :: es, isPlainE y = true) (hl : (e :: es).length = n) (ha : PA X (e :: es) (tA (gx X FA) WF ml)) (hlen : ∀ σ S ds S', ml σ S = .ok ds S' → ds.length = (e :: es).length) :
    PE X (.Call (.Name x p) (e :: es) [] pos) (tE (gx X FA) WF (callM C i ml)) :=
  PE.imp (C8.pe_c c hr hk hg ha hd (star_cons (hp e List.mem_cons_self)) (star_plain fun y hy => hp y (List.mem_cons_of_mem _ hy))) fun τ H Q ⟨σ, θ, S, rE, m, h⟩ => by
    refine ⟨σ, θ, S, rE, m, (PostR.bind (R := fun θ' H' ds vs => RepL (gx X FA) θ' H' ds vs) (Post.iff.mp h)).mono fun vs H1 ⟨ds, θ1, S1, q, e1, m1, r1, h1⟩ => ?_⟩
    have l := hlen _ _ _ _ q
    refine ⟨by rw [List.append_nil, r1.length, l, hl], θ1, S1, ds, by rw [List.append_nil]; exact r1, m1, ?_⟩
    have h1 := PostR.rebase e1 (R1 := RepP (gx X FA) H) (R := RepP (gx X FA) H) (fun _ _ _ _ q => q) h1
    exact (PostR.bind (R := fun θ' H' d v => Rep (gx X FA) θ' H' d v) h1).mono fun v H2 ⟨d, θ2, S2, _, e2, m2, r2, h2⟩ => h2 θ2 H2 v e2 m2 r2
end
end Nog

set_option Elab.async false
set_option linter.all false
set_option maxRecDepth 100000
set_option maxHeartbeats 2000000
/-! calls of own defs by keywords -/
namespace Nog
open PySem L2 PyProof.Rows
def kwn : List Keyword → Option (List Str)
  | [] => some []
  | k :: r => match k.arg with
    | some n => (kwn r).map (n :: ·)
    | none => none
theorem kwn_ok {pos : Pos} {env : PySem.Env} : ∀ {kws : List Keyword} {ks : List Str}, kwn kws = some ks → (backToKw pos (keywordEach kws env)).all (·.1.isSome) = true ∧ (backToKw pos (keywordEach kws env)).filterMap (·.1) = ks ∧ (backToKw pos (keywordEach kws env)).any (·.1.isNone) = false ∧ ks.length = kws.length
  | [], ks, h => by cases h; exact ⟨rfl, rfl, rfl, rfl⟩
  | ⟨a, v, p⟩ :: r, ks, h => by
    unfold kwn at h
    cases a with
    | none => cases h
    | some n =>
      obtain ⟨ks', h1, rfl⟩ := Option.map_eq_some_iff.mp h
      obtain ⟨g1, g2, g3, g4⟩ := kwn_ok (pos := pos) (env := env) h1
      have e : backToKw pos (keywordEach (⟨some n, v, p⟩ :: r) env) = (some n, do let x ← eval v env; standAt pos; pure x) :: backToKw pos (keywordEach r env) := rfl
      rw [e]
      exact ⟨by rw [List.all_cons, g1]; rfl, by rw [List.filterMap_cons, g2], by rw [List.any_cons, g3]; rfl, by rw [List.length_cons, List.length_cons, g4]⟩
/-- the values in the parameters' order -/
def gk (ks : List Str) (π : List Nat) (us ws : List Value) : List Value := if us = [] ∧ ws.length = ks.length then π.map fun i => ws.getD i .none else []
def gkV (ks : List Str) (π : List Nat) (vs zs : List V) : List V := if vs = [] ∧ zs.length = ks.length then π.map fun i => zs.getD i .non else []
instance (us ws : List Value) (n : Nat) : Decidable (us = [] ∧ ws.length = n) := match us with
  | [] => if h : ws.length = n then isTrue ⟨rfl, h⟩ else isFalse fun z => h z.2
  | _ :: _ => isFalse fun z => by cases z.1
theorem vals_getD : ∀ {zs : List V} {ws : List Value} (i : Nat), Vals zs ws → L2.RelV (zs.getD i .non) (ws.getD i .none)
  | [], [], i, _ => by simp; exact rfl
  | _ :: _, _ :: _, 0, .cons r _ => r
  | _ :: _, _ :: _, i + 1, .cons _ t => by simpa using vals_getD i t
theorem vals_map {zs : List V} {ws : List Value} (h : Vals zs ws) : ∀ π : List Nat, Vals (π.map fun i => zs.getD i .non) (π.map fun i => ws.getD i .none)
  | [] => .nil
  | i :: π => .cons (vals_getD i h) (vals_map h π)
theorem gk_rel {ks : List Str} {π : List Nat} {vs zs : List V} {us ws : List Value} (r : Vals vs us) (rz : Vals zs ws) : Vals (gkV ks π vs zs) (gk ks π us ws) := by
  have l1 := Vals.length r
  have l2 := Vals.length rz
  unfold gk gkV
  have e : (us = [] ∧ ws.length = ks.length) ↔ (vs = [] ∧ zs.length = ks.length) := by
    rw [l2, ← List.length_eq_zero_iff, ← List.length_eq_zero_iff, l1]
  by_cases h : vs = [] ∧ zs.length = ks.length
  · rw [if_pos h, if_pos (e.mpr h)]
    exact vals_map rz π
  · rw [if_neg h, if_neg (fun z => h (e.mp z))]
    exact .nil
/-- an own def that may be called by these keywords -/
structure CalK (P : Program) (w : World) (K : PySem.W.Frag) (mg : Str → Option Value) (base : Heap) (k : Nat) (x : Str) (ks : List Str) (π : List Nat) (sp : Sp) : Prop where
  ex : ∃ (f : Addr) (fd : FuncData) (ps : List Str), FnOk P w K mg base C8.CX0 k f fd ps sp ∧ mg x = some (.ref f) ∧ PySem.W.keepIn K (.ref f) = true ∧ L2.KBinds K fd ps ks (gk ks π) (gkV ks π)
section
variable {X : Cx} {FA : Nat → Option Addr} {pos p kp : Pos} {θ : List Addr} {e : Expr} {kws : List Keyword} {ma : Env → Sto → Rs Pv} {ml : Env → Sto → Rs (List Nog.D)} {nm : Option Str} {W : WX'}
theorem PK.imp {t t' : TA} (h : PK X kws t) (f : ∀ σ H Q, t' σ H Q → t σ H Q) : PK X kws t' := ⟨fun pos pins s σ H Q I q => h.run pos pins s σ H Q I (f σ H Q q)⟩
theorem sK_nil : PK X [] (tA (gx X FA) W fun _ S => .ok [] S) :=
  PK.imp pk_nil fun τ H Q ⟨σ, θ, S, rE, m, h⟩ => h θ H [] .refl m .nil
theorem sK_cons (ha : PE X e (tE (gx X FA) W ma)) (hr : PK X kws (tA (gx X FA) W ml)) : PK X (⟨nm, e, kp⟩ :: kws) (tA (gx X FA) W (consM ma ml)) :=
  PK.imp (pk_cons ha hr) fun τ H Q ⟨σ, θ, S, rE, m, h⟩ => by
    unfold consM at h
    refine ⟨σ, θ, S, rE, m, (val_read h).mono fun v H1 ⟨d, θ2, S2, e2, m2, r2, h2⟩ => ?_⟩
    refine ⟨σ, θ2, S2, rE.ext e2, m2, ?_⟩
    have h3 := PostR.rebase (R := fun θ' H' ds vs => RepL (gx X FA) θ' H' ds vs) e2 (fun _ _ _ _ q => q) h2
    refine (PostR.bind (R := fun θ' H' ds vs => RepL (gx X FA) θ' H' ds vs) h3).mono fun vs H3 ⟨ds, θ3, S3, _, e3, m3, r3, h4⟩ => ?_
    exact h4 θ3 H3 (v :: vs) e3 m3 (.cons (r2.ext e3) r3)
/-- f(k = v, ..) -/
theorem pe_callK0 {CX : CXT} {k : Nat} {f : Addr} {fd : FuncData} {ps ks : List Str} {sp : Sp} {E : XK} {x : Str} {g : List Value → List Value → List Value} {gV : List V → List V → List V} {tk : TA} (F : FnOk X.prog X.w X.K X.mg X.base CX k f fd ps sp) (hr : Room k X.A) (hg : Gl X x) (hm : X.mg x = some (.ref f)) (hk : PySem.W.keepIn X.K (.ref f) = true) (hb : KBinds X.K fd ps ks g gV) (hx : Passes CX X E)
    (hkw : PK X kws tk) (hn : kwn kws = some ks) (hdb : (x == ("__debug__" : Str)) = false) : PE X (.Call (.Name x p) [] kws pos) (tCallK sp gV E tNil tk) := by
  refine ⟨fun pins s σ H Q I h => ?_⟩
  obtain ⟨k1, k2, k3, _⟩ := kwn_ok (pos := pos) (env := X.env) hn
  refine wpAny_Call_Name_kw (ld_glob I hg hm ?_ hdb)
  refine PySem.W.callWith_KW0 (h₀ := X.base) I.ok.mod.kin hk k1 (thn (hkw.run pos pins s σ H _ I h) fun ws s2 ⟨zs, H2, I2, rz, q2⟩ => ⟨I2.kIn, ?_⟩) (by rw [k3]; rfl)
  rw [k2]
  exact run_fnk F hr hb hx I2 .nil rz q2
theorem rep_getD {G : Gx} {H : Hp} : ∀ {ds : List Nog.D} {vs : List V} (i : Nat), RepL G θ H ds vs → Rep G θ H (ds.getD i .non) (vs.getD i .non)
  | [], [], i, _ => by simp [Rep]
  | [], _ :: _, _, h => by cases h.length
  | _ :: _, [], _, h => by cases h.length
  | d :: ds, v :: vs, 0, h => by obtain ⟨_, _, e, h1, _⟩ := h.cons_inv; cases e; exact h1
  | d :: ds, v :: vs, i + 1, h => by obtain ⟨_, _, e, _, h2⟩ := h.cons_inv; cases e; simpa using rep_getD i h2
theorem rep_map {G : Gx} {H : Hp} {ds : List Nog.D} {vs : List V} (h : RepL G θ H ds vs) : ∀ π : List Nat, RepL G θ H (π.map fun i => ds.getD i .non) (π.map fun i => vs.getD i .non)
  | [] => .nil
  | i :: π => .cons (rep_getD i h) (rep_map h π)
def callKM (C : Call) (i : Nat) (π : List Nat) (ml : Env → Sto → Rs (List Nog.D)) (σ : Env) (S : Sto) : Rs Pv := (ml σ S).bind fun ds S1 => (C i (permD π ds) S1).bind fun d S2 => .ok (.val d) S2
theorem sE_callk {C : Call} {i n k j : Nat} {x : Str} {ks : List Str} {π : List Nat} (c : CalK X.prog X.w X.K X.mg X.base k x ks π (spOf (gx X FA) C i n)) (hr : Room j X.A) (hk : k ≤ j) (hg : Gl X x) (hd : (x == ("__debug__" : Str)) = false)
    (hn : kwn kws = some ks) (hπ : π.length = n) (ha : PK X kws (tA (gx X FA) WF ml)) (hlen : ∀ σ S ds S', ml σ S = .ok ds S' → ds.length = ks.length) :
    PE X (.Call (.Name x p) [] kws pos) (tE (gx X FA) WF (callKM C i π ml)) := by
  obtain ⟨f, fd, ps, F, hm, kp, b⟩ := c.ex
  refine PE.imp (pe_callK0 (E := C8.E0) F (hr.mono hk) hg hm kp b C8.pass0 ha hn hd) fun τ H Q ⟨σ, θ, S, rE, m, h⟩ => ?_
  refine ⟨σ, θ, S, rE, m, (PostR.bind (R := fun θ' H' ds vs => RepL (gx X FA) θ' H' ds vs) (Post.iff.mp h)).mono fun vs H1 ⟨ds, θ1, S1, q, e1, m1, r1, h1⟩ => ?_⟩
  have l := hlen _ _ _ _ q
  have e : gkV ks π [] vs = π.map fun i => vs.getD i .non := by unfold gkV; rw [if_pos ⟨rfl, by rw [r1.length, l]⟩]
  rw [e]
  refine ⟨by rw [List.length_map, hπ], θ1, S1, permD π ds, rep_map r1 π, m1, ?_⟩
  have h1 := PostR.rebase e1 (R1 := RepP (gx X FA) H) (R := RepP (gx X FA) H) (fun _ _ _ _ q => q) h1
  exact (PostR.bind (R := fun θ' H' d v => Rep (gx X FA) θ' H' d v) h1).mono fun v H2 ⟨d, θ2, S2, _, e2, m2, r2, h2⟩ => h2 θ2 H2 v e2 m2 r2
end
end Nog

set_option Elab.async false
set_option linter.all false
set_option maxRecDepth 100000
set_option maxHeartbeats 2000000
/-! len(set(a tuple of ints)) -/
namespace Nog
open PySem L2 PyProof.Rows
theorem dedup_spec : ∀ (xs acc : List Nog.D), acc.Nodup → (dedup acc xs).Nodup ∧ ∀ x, x ∈ dedup acc xs ↔ x ∈ acc ∨ x ∈ xs
  | [], acc, h => ⟨h, fun x => by rw [dedup]; simp⟩
  | y :: ys, acc, h => by
    rw [dedup]
    split
    · rename_i hy
      obtain ⟨z, hz, e⟩ := List.any_eq_true.mp hy
      have e := of_decide_eq_true e
      subst e
      obtain ⟨h1, h2⟩ := dedup_spec ys acc h
      refine ⟨h1, fun x => ?_⟩
      rw [h2, List.mem_cons]
      exact ⟨fun q => q.elim .inl fun q => .inr (.inr q), fun q => q.elim .inl fun q => q.elim (fun e => .inl (e ▸ hz)) .inr⟩
    · rename_i hy
      have hn : y ∉ acc := fun q => hy (List.any_eq_true.mpr ⟨y, q, decide_eq_true rfl⟩)
      obtain ⟨h1, h2⟩ := dedup_spec ys (acc ++ [y]) (by
        rw [List.nodup_append]
        exact ⟨h, by simp, fun a ha c hc e => hn (by rw [← List.mem_singleton.mp hc, ← e]; exact ha)⟩)
      refine ⟨h1, fun x => ?_⟩
      rw [h2, List.mem_append, List.mem_singleton, List.mem_cons, or_assoc]
theorem ints_of_all : ∀ {xs : List Nog.D}, xs.all isInt = true → ∃ ns : List Int, xs = ns.map Nog.D.int
  | [], _ => ⟨[], rfl⟩
  | x :: xs, h => by
    rw [List.all_cons, Bool.and_eq_true] at h
    obtain ⟨ns, e⟩ := ints_of_all h.2
    cases x with
    | int i => exact ⟨i :: ns, by rw [e]; rfl⟩
    | _ => exact absurd h.1 (by simp [isInt])
theorem repL_ints {G : Gx} {θ : List Addr} {H : Hp} : ∀ {ns : List Int} {vs : List V}, RepL G θ H (ns.map Nog.D.int) vs → vs = ns.map V.int
  | [], _, h => h.nil_inv
  | n :: ns, _, h => by
    obtain ⟨v, r, rfl, h1, h2⟩ := h.cons_inv
    rw [repL_ints h2, h1.int_inv]; rfl
section
variable {X : Cx} {FA : Nat → Option Addr} {W : WX'} {a : Expr} {ma : Env → Sto → Rs Pv} {p p2 q pos : Pos}
theorem sE_lset (hc : X.calm = true) (hg : Gl X "len") (hm : X.mg "len" = none) (hg2 : Gl X "set") (hm2 : X.mg "set" = none) (hp : isPlainE a = true) (ha : PE X a (tE (gx X FA) W ma)) :
    PE X (.Call (.Name "len" p) [.Call (.Name "set" p2) [a] [] q] [] pos) (tE (gx X FA) W fun σ S => (ma σ S).bind fun p S1 => match lsetP p with
    | some n => .ok (.val (.int n)) S1
    | none => .no) := by
  have na : starEach [a] X.env = (false, eval a X.env) :: starEach [] X.env := star_cons hp
  refine ⟨fun pins s τ H Q I h => ?_⟩
  refine Call_ (ld_blt I hg hm PySem.boot_len ?_)
  refine PyProof.Rows.callWith_builtin1 (PyProof.Rows.args_cons ?_ rfl) rfl rfl
  refine Call_ (ld_blt I hg2 hm2 PyProof.Rows.boot_set ?_)
  refine PyProof.Rows.callWith_type1 (PyProof.Rows.args_cons (thn (ha.run pins s τ H _ I (one h)) fun v s1 ⟨x, H1, I1, r1, q1⟩ => PyProof.Rows.args_nil ?_) na) na rfl
  obtain ⟨pv, θ, S, H₁, m, rp, hq⟩ := q1
  dsimp only at hq
  split at hq
  · rename_i n e
    unfold lsetP at e
    split at e
    · rename_i xs
      split at e
      · rename_i hx
        cases e
        rw [Bool.and_eq_true, decide_eq_true_eq] at hx
        obtain ⟨ns, rfl⟩ := ints_of_all hx.1
        obtain ⟨l, vs, rfl, hs, rl⟩ := RepP.t rp
        have ev := repL_ints rl
        subst ev
        cases r1
        obtain ⟨its, rv, pt, hz⟩ := I1.tuple hs
        have hi : IntsAre its.toArray.toList ns := ints_of_vals rv
        have hln : ns.length ≤ 1000 := by have := hx.2; rw [List.length_map] at this; exact this
        refine call_set_tupI ns (I1.ok.hd hc) (show s1.heap.IsTuple l its.toArray from pt) hi (by unfold scanBound; omega) fun h' tk c R1 hcn k => ?_
        obtain ⟨o, es, ep, t, ho, hex, hdt, g, nd, hm2, hb, hf, hn, hr, hl2⟩ := R1
        refine PyProof.Rows.args_nil ?_
        have I2 : Inv X pins τ H1 { s1 with heap := h', toks := tk } := I1.kept fun b o e => k b o e
        have hsz : es.size = (dedup [] (ns.map Nog.D.int)).length := by
          obtain ⟨d1, d2⟩ := dedup_spec (ns.map Nog.D.int) [] List.nodup_nil
          have inj : ∀ i j : Int, Nog.D.int i = Nog.D.int j → i = j := fun i j e => by cases e; rfl
          have d3 : ((es.toList.map keyOf).map Nog.D.int).Nodup := List.Pairwise.map _ (fun a b h e => h (inj _ _ e)) nd
          have hmem : ∀ x, x ∈ (es.toList.map keyOf).map Nog.D.int ↔ x ∈ dedup [] (ns.map Nog.D.int) := fun x => by
            rw [d2, List.mem_map, List.mem_map]
            constructor
            · rintro ⟨j, hj, rfl⟩
              exact .inr ⟨j, of_decide_eq_true ((hm2 j).mpr hj), rfl⟩
            · rintro (z | ⟨j, hj, rfl⟩)
              · cases z
              · exact ⟨j, (hm2 j).mp (decide_eq_true hj), rfl⟩
          have l1 := List.Nodup.length_le_of_subset d3 fun x hx => (hmem x).mp hx
          have l2 := List.Nodup.length_le_of_subset d1 fun x hx => (hmem x).mpr hx
          rw [List.length_map, List.length_map] at l1 l2
          have e0 : es.toList.length = es.size := Array.length_toList
          omega
        have hbig : (es.size : Int) < 2 ^ 63 := by rw [hn]; omega
        refine call_len_set ho hex hdt hf hbig ⟨.int es.size, H1, I2.tok _, ⟨_, rfl⟩, ?_⟩
        rw [hsz]
        exact hq.val m .int
      · cases e
    · cases e
  · exact hq.elim
end
end Nog

set_option Elab.async false
set_option linter.all false
set_option maxRecDepth 100000
set_option maxHeartbeats 1000000
/-! the comparison of the given text with the own one -/
namespace Nog
open PySem L2 PyProof.Rows
/-- what is known of a module: the functions (their number, how many parameters), the names of gcd -/
structure CkP where
  T : List (Str × (Nat × Nat))
  gc : List (Str × Bi)
  cs : List (Str × Int)
  kt : List ((Str × List Str) × (Nat × List Nat))
/-- the names that must be built-in -/
def bltN : List Str := ["len", "sum", "max", "min", "sorted", "abs", "tuple", "list", "dict", "int", "isinstance", "bool", "str", "range", "enumerate", "set"]
def gl (sc : Scope) (x : Str) : Bool := decide (sc.names.lookup x = some .globalImplicit)
/-- a built-in's name -/
def bl (sc : Scope) (x : Str) : Bool := gl sc x && decide (x ∈ bltN)
def visB (sc : Scope) (x : Str) : Bool := match sc.names.lookup x with
  | some .local => true
  | some .cell => true
  | some .free => true
  | _ => false
def locB (sc : Scope) (fb : Str → Bool) (x : Str) : Bool := match sc.names.lookup x with
  | some .local => true
  | some .cell => fb x
  | _ => false
def noMark (x : Str) : Bool := !(x == ("__debug__" : Str)) && !(x == ("__classdict__" : Str))
def litB (d : Nog.D) (x : Expr) : Bool := match x with
  | .Constant (.int j) _ _ => decide (d = .int j)
  | .Constant (.bool j) _ _ => decide (d = .bl j)
  | .Constant .none _ _ => decide (d = .non)
  | .Constant (.str j) _ _ => decide (d = .str j.cps.toList)
  | _ => false
/-- a constant of the module -/
def litG (P : CkP) (sc : Scope) (d : Nog.D) (x : Expr) : Bool := match x with
  | .Name y _ => gl sc y && noMark y && (match P.cs.lookup y with
    | some i => decide (d = .int i)
    | none => false)
  | _ => false
def nmB (N : List Str) (sc : Scope) (fb : Str → Bool) (i : Nat) (x : Expr) : Bool := match x with
  | .Name y _ => decide (N[i]? = some y) && locB sc fb y
  | _ => false
def nmsB (N : List Str) (sc : Scope) (fb : Str → Bool) : List Nat → List Expr → Bool
  | [], [] => true
  | i :: is, x :: xs => nmB N sc fb i x && nmsB N sc fb is xs
  | _, _ => false
/-- a target -/
def tgB (N : List Str) (sc : Scope) (fb : Str → Bool) (tg : Tg) (x : Expr) : Bool := match tg with
  | .nm i => nmB N sc fb i x
  | .tp is => match x with
    | .Tuple xs _ _ => nmsB N sc fb is xs
    | _ => false
def isTupX : Expr → Bool
  | .Tuple .. => true
  | _ => false
def isEnu : E → Bool
  | .enu _ => true
  | _ => false
def isRg : E → Bool
  | .rg1 _ => true
  | .rg2 _ _ => true
  | _ => false
def inner (scope : Scope) : Str → Bool := fun x => scope.names.lookup x == some .cell
def owns (N : List Str) (own : List Nat) : List (Str × Nat) := own.map fun i => ((N[i]?).getD default, i)
def subB (is own : List Nat) : Bool := is.all fun i => decide (i ∈ own)
def tyX (t : Ty) : Option (Str × String) := match t with
  | .int => some ("int", "int")
  | .bool => some ("bool", "bool")
  | .str => some ("str", "str")
  | .tuple => some ("tuple", "tuple")
  | .list => some ("list", "list")
  | .cls _ => none
def E.isNonL : E → Bool
  | .lit .non => true
  | _ => false
/-- no conditional expression where a test is wanted -/
def noIf : E → Bool
  | .ite .. => false
  | .an a b => noIf a && noIf b
  | .orr a b => noIf a && noIf b
  | .nt a => noIf a
  | _ => true
def fewB (xs : List Expr) : Bool := xs.all isPlainE && decide (xs.length < 20)
def ck_var (N : List Str) (sc : Scope) (i : Nat)  (x : Expr) : Bool := match x with
    | .Name y _ => decide (N[i]? = some y) && visB sc y && noMark y
    | _ => false
def ck_tup  (g1 : List Expr → Bool) (x : Expr) : Bool := match x with
    | .Tuple xs _ _ => g1 xs && decide (xs.length ≤ 1000)
    | _ => false
def ck_lst  (g1 : List Expr → Bool) (x : Expr) : Bool := match x with
    | .List xs _ => g1 xs && decide (xs.length ≤ 1000)
    | _ => false
def ck_dc0   (x : Expr) : Bool := match x with
    | .Dict [] [] _ => true
    | _ => false
def ck_dc1  (f1 : Expr → Bool) (f2 : Expr → Bool) (x : Expr) : Bool := match x with
    | .Dict [some a] [b] _ => f1 a && f2 b
    | _ => false
def ck_bin (o : Op) (f1 : Expr → Bool) (f2 : Expr → Bool) (x : Expr) : Bool := match x with
    | .BinOp u op v _ => decide (op = opX o) && f1 u && f2 v
    | _ => false
def ck_neg  (f1 : Expr → Bool) (x : Expr) : Bool := match x with
    | .UnaryOp .USub u _ => f1 u
    | _ => false
def ck_nt  (f1 : Expr → Bool) (x : Expr) : Bool := match x with
    | .UnaryOp .Not u _ => f1 u
    | _ => false
def ck_cmp (o : Cm) (f1 : Expr → Bool) (f2 : Expr → Bool) (x : Expr) : Bool := match x with
    | .Compare u [op] [v] _ => decide (op = cmX o) && isPlainE v && f1 u && f2 v
    | _ => false
def ck_chn (o : Cm) (o' : Cm) (f1 : Expr → Bool) (f2 : Expr → Bool) (f3 : Expr → Bool) (x : Expr) : Bool := match x with
    | .Compare u [op, op'] [v, w] _ => decide (op = cmX o) && decide (op' = cmX o') && isPlainE w && f1 u && f2 v && f3 w
    | _ => false
def ck_isn  (f1 : Expr → Bool) (x : Expr) : Bool := match x with
    | .Compare u [.Is] [.Constant .none _ _] _ => f1 u
    | _ => false
def ck_nisn  (f1 : Expr → Bool) (x : Expr) : Bool := match x with
    | .Compare u [.IsNot] [.Constant .none _ _] _ => f1 u
    | _ => false
def ck_an  (f1 : Expr → Bool) (f2 : Expr → Bool) (x : Expr) : Bool := match x with
    | .BoolOp .And [u, v] _ => f1 u && f2 v
    | .BoolOp .And (u :: v :: w :: r) p => f1 u && f2 (.BoolOp .And (v :: w :: r) p)
    | _ => false
def ck_orr  (f1 : Expr → Bool) (f2 : Expr → Bool) (x : Expr) : Bool := match x with
    | .BoolOp .Or [u, v] _ => f1 u && f2 v
    | .BoolOp .Or (u :: v :: w :: r) p => f1 u && f2 (.BoolOp .Or (v :: w :: r) p)
    | _ => false
def ck_ite (c : E) (f1 : Expr → Bool) (f2 : Expr → Bool) (f3 : Expr → Bool) (x : Expr) : Bool := match x with
    | .IfExp t u v _ => noIf c && f1 t && f2 u && f3 v
    | _ => false
def ck_ix  (f1 : Expr → Bool) (f2 : Expr → Bool) (x : Expr) : Bool := match x with
    | .Subscript u v _ => isPlainE v && f1 u && f2 v
    | _ => false
def ck_sl (lo : E) (hi : E) (f1 : Expr → Bool) (f2 : Expr → Bool) (f3 : Expr → Bool) (x : Expr) : Bool := match x with
    | .Subscript u (.Slice lo' hi' none _) _ => f1 u && (match lo' with
      | none => decide (lo.isNonL = true)
      | some l => !lo.isNonL && f2 l) && (match hi' with
      | none => decide (hi.isNonL = true)
      | some h => !hi.isNonL && f3 h)
    | _ => false
def ck_call (P : CkP) (sc : Scope) (f : Nat) (g1 : List Expr → Bool) (x : Expr) : Bool := match x with
    | .Call (.Name y _) xs [] _ => (match P.T.lookup y with
      | some (i, n) => decide (i = f) && decide (xs.length = n)
      | none => false) && decide (xs ≠ []) && gl sc y && noMark y && xs.all isPlainE && g1 xs
    | _ => false
def ck_callk (P : CkP) (sc : Scope) (f : Nat) (π : List Nat) (g1 : List Expr → Bool) (x : Expr) : Bool := match x with
    | .Call (.Name y _) [] kws _ => (match kwn kws with
      | some ks => (match P.kt.lookup (y, ks) with
        | some (i, π') => decide (i = f) && decide (π' = π)
        | none => false)
      | none => false) && gl sc y && noMark y && g1 (kws.map (·.value))
    | _ => false
def ck_rg1 (sc : Scope) (src : Bool) (f1 : Expr → Bool) (x : Expr) : Bool := match x with
    | .Call (.Name y _) [u] [] _ => src && decide (y = "range") && bl sc y && isPlainE u && f1 u
    | _ => false
def ck_rg2 (sc : Scope) (src : Bool) (f1 : Expr → Bool) (f2 : Expr → Bool) (x : Expr) : Bool := match x with
    | .Call (.Name y _) [u, v] [] _ => src && decide (y = "range") && bl sc y && isPlainE u && isPlainE v && f1 u && f2 v
    | _ => false
def ck_enu (sc : Scope) (src : Bool) (f1 : Expr → Bool) (x : Expr) : Bool := match x with
    | .Call (.Name y _) [u] [] _ => src && decide (y = "enumerate") && bl sc y && isPlainE u && f1 u
    | _ => false
def ck_b1 (sc : Scope) (b : Bi) (a : E) (f1 : Expr → Bool) (f2 : Expr → Bool) (x : Expr) : Bool := match x with
    | .Call (.Name y _) [u] [] _ => (match b1N b with
      | some (z, _) => decide (y = z)
      | none => false) && bl sc y && isPlainE u && (if isRg a then (decide (b = .tuple) || decide (b = .list)) && f1 u else f2 u)
    | _ => false
def ck_b2 (P : CkP) (sc : Scope) (b : Bi) (f1 : Expr → Bool) (f2 : Expr → Bool) (x : Expr) : Bool := match x with
    | .Call (.Name y _) [u, v] [] _ => isPlainE u && isPlainE v && gl sc y && noMark y && (match b2N b with
      | some z => decide (y = z)
      | none => (decide (b = .gcd) || decide (b = .lcm)) && decide ((y, b) ∈ P.gc)) && f1 u && f2 v
    | _ => false
def ck_mxd (sc : Scope) (b : Bi) (f1 : Expr → Bool) (f2 : Expr → Bool) (x : Expr) : Bool := match x with
    | .Call (.Name y _) [u] [⟨some nm, v, _⟩] _ => (match b2N b with
      | some z => decide (y = z)
      | none => false) && decide (nm = "default") && bl sc y && isPlainE u && f1 u && f2 v
    | _ => false
def ck_isi (sc : Scope) (t : Ty) (f1 : Expr → Bool) (x : Expr) : Bool := match x with
    | .Call (.Name y _) [u, .Name z _] [] _ => decide (y = "isinstance") && bl sc y && bl sc z && (match tyX t with
      | some (z', _) => decide (z = z')
      | none => false) && isPlainE u && f1 u
    | _ => false
def ck_isi2 (sc : Scope) (t t2 : Ty) (f1 : Expr → Bool) (x : Expr) : Bool := match x with
    | .Call (.Name y _) [u, .Tuple [.Name z _, .Name z2 _] _ _] [] _ => decide (y = "isinstance") && bl sc y && bl sc z && bl sc z2 && (match tyX t with
      | some (z', _) => decide (z = z')
      | none => false) && (match tyX t2 with
      | some (z', _) => decide (z2 = z')
      | none => false) && isPlainE u && f1 u
    | _ => false
def ck_lset (sc : Scope) (f1 : Expr → Bool) (x : Expr) : Bool := match x with
    | .Call (.Name y _) [.Call (.Name z _) [u] [] _] [] _ => decide (y = "len") && decide (z = "set") && bl sc y && bl sc z && isPlainE u && f1 u
    | _ => false
def ck_ms (m : Me) (f1 : Expr → Bool) (g1 : List Expr → Bool) (x : Expr) : Bool := match x with
    | .Call (.Attribute u nm apos) xs [] cpos => (match meT m with
      | some (_, nm', _) => decide (nm = nm')
      | none => false) && isRecv u && (apos.endLine == cpos.line) && fewB xs && f1 u && g1 xs
    | _ => false
def ck_ext  (f1 : Expr → Bool) (f2 : Expr → Bool) (x : Expr) : Bool := match x with
    | .Call (.Attribute u nm apos) [v] [] cpos => decide (nm = "extend") && isRecv u && isPlainE v && (apos.endLine == cpos.line) && f1 u && f2 v
    | _ => false
def ck_lc (N : List Str) (sc : Scope) (own : List Nat) (tg : Tg) (q : E) (f1 : Expr → Bool) (f2 : Scope → Expr → Bool) (g1 : Scope → List Expr → Bool) (x : Expr) : Bool := match x with
    | .ListComp elt' [⟨tg', it, ifs', 0⟩] scope _ => isPlainE it && blkC N sc scope (owns N own) && subB tg.slots own && (!isEnu q || isTupX tg') && tgB N (relS scope sc) (inner scope) tg tg' && f1 it && g1 scope ifs' && f2 scope elt'
    | _ => false
def ck_lc2 (N : List Str) (sc : Scope) (own : List Nat) (tg : Tg) (q : E) (tg2 : Tg) (q2 : E) (f1 : Expr → Bool) (f2 : Scope → Expr → Bool) (f3 : Scope → Expr → Bool) (g1 : Scope → List Expr → Bool) (g2 : Scope → List Expr → Bool) (x : Expr) : Bool := match x with
    | .ListComp elt' [⟨tg', it, ifs', 0⟩, ⟨tg2', it2, ifs2', 0⟩] scope _ => isPlainE it && isPlainE it2 && blkC N sc scope (owns N own) && subB tg.slots own && subB tg2.slots own && (!isEnu q || isTupX tg') && (!isEnu q2 || isTupX tg2') && tgB N (relS scope sc) (inner scope) tg tg' && tgB N (relS scope sc) (inner scope) tg2 tg2' &&
      f1 it && g1 scope ifs' && f2 scope it2 && g2 scope ifs2' && f3 scope elt'
    | _ => false
def ck_dc (N : List Str) (sc : Scope) (own : List Nat) (tg : Tg) (q : E) (f1 : Expr → Bool) (f2 : Scope → Expr → Bool) (f3 : Scope → Expr → Bool) (g1 : Scope → List Expr → Bool) (x : Expr) : Bool := match x with
    | .DictComp k' v' [⟨tg', it, ifs', 0⟩] scope _ => isPlainE it && blkC N sc scope (owns N own) && subB tg.slots own && (!isEnu q || isTupX tg') && tgB N (relS scope sc) (inner scope) tg tg' && f1 it && g1 scope ifs' && f2 scope k' && f3 scope v'
    | _ => false
mutual
def ckE (P : CkP) (N : List Str) (src : Bool) (sc : Scope) (fb : Str → Bool) : E → Expr → Bool
  | .var i, x => ck_var N sc i  x
  | .lit d, x => litB d x || litG P sc d x
  | .tup es, x => ck_tup  (ckL P N sc fb es) x
  | .lst es, x => ck_lst  (ckL P N sc fb es) x
  | .dc0 , x => ck_dc0   x
  | .dc1 k v, x => ck_dc1  (ckE P N false sc fb k) (ckE P N false sc fb v) x
  | .bin o a b, x => ck_bin o (ckE P N false sc fb a) (ckE P N false sc fb b) x
  | .neg a, x => ck_neg  (ckE P N false sc fb a) x
  | .nt a, x => ck_nt  (ckE P N false sc fb a) x
  | .cmp o a b, x => ck_cmp o (ckE P N false sc fb a) (ckE P N false sc fb b) x
  | .chn o o' a b c, x => ck_chn o o' (ckE P N false sc fb a) (ckE P N false sc fb b) (ckE P N false sc fb c) x
  | .isn a, x => ck_isn  (ckE P N false sc fb a) x
  | .nisn a, x => ck_nisn  (ckE P N false sc fb a) x
  | .an a b, x => ck_an  (ckE P N false sc fb a) (ckE P N false sc fb b) x
  | .orr a b, x => ck_orr  (ckE P N false sc fb a) (ckE P N false sc fb b) x
  | .ite c a b, x => ck_ite c (ckE P N false sc fb c) (ckE P N false sc fb a) (ckE P N false sc fb b) x
  | .ix a i, x => ck_ix  (ckE P N false sc fb a) (ckE P N false sc fb i) x
  | .sl a lo hi, x => ck_sl lo hi (ckE P N false sc fb a) (ckE P N false sc fb lo) (ckE P N false sc fb hi) x
  | .call f es, x => ck_call P sc f (ckL P N sc fb es) x
  | .callk f π es, x => ck_callk P sc f π (ckL P N sc fb es) x
  | .rg1 a, x => ck_rg1 sc src (ckE P N false sc fb a) x
  | .rg2 a b, x => ck_rg2 sc src (ckE P N false sc fb a) (ckE P N false sc fb b) x
  | .enu a, x => ck_enu sc src (ckE P N false sc fb a) x
  | .b1 b a, x => ck_b1 sc b a (ckE P N true sc fb a) (ckE P N false sc fb a) x
  | .b2 b a c, x => ck_b2 P sc b (ckE P N false sc fb a) (ckE P N false sc fb c) x
  | .mxd b a d, x => ck_mxd sc b (ckE P N false sc fb a) (ckE P N false sc fb d) x
  | .isi a t, x => ck_isi sc t (ckE P N false sc fb a) x
  | .isi2 a t u, x => ck_isi2 sc t u (ckE P N false sc fb a) x
  | .lset a, x => ck_lset sc (ckE P N false sc fb a) x
  | .ms m o es, x => ck_ms m (ckE P N false sc fb o) (ckL P N sc fb es) x
  | .ext o a, x => ck_ext  (ckE P N false sc fb o) (ckE P N false sc fb a) x
  | .lc own elt tg q ifs, x => ck_lc N sc own tg q (ckE P N true sc fb q) (fun scope => ckE P N false (relS scope sc) (inner scope) elt) (fun scope => ckI P N (relS scope sc) (inner scope) ifs) x
  | .lc2 own elt tg q ifs tg2 q2 ifs2, x => ck_lc2 N sc own tg q tg2 q2 (ckE P N true sc fb q) (fun scope => ckE P N true (relS scope sc) (inner scope) q2) (fun scope => ckE P N false (relS scope sc) (inner scope) elt) (fun scope => ckI P N (relS scope sc) (inner scope) ifs) (fun scope => ckI P N (relS scope sc) (inner scope) ifs2) x
  | .dc own k v tg q ifs, x => ck_dc N sc own tg q (ckE P N true sc fb q) (fun scope => ckE P N false (relS scope sc) (inner scope) k) (fun scope => ckE P N false (relS scope sc) (inner scope) v) (fun scope => ckI P N (relS scope sc) (inner scope) ifs) x
  | _, _ => false
termination_by structural e => e
def ckL (P : CkP) (N : List Str) (sc : Scope) (fb : Str → Bool) : List E → List Expr → Bool
  | [], [] => true
  | e :: es, x :: xs => isPlainE x && ckE P N false sc fb e x && ckL P N sc fb es xs
  | _, _ => false
termination_by structural es => es
/-- a clause's tests: one at most -/
def ckI (P : CkP) (N : List Str) (sc : Scope) (fb : Str → Bool) : List E → List Expr → Bool
  | [], [] => true
  | [e], [x] => noIf e && ckE P N false sc fb e x
  | _, _ => false
termination_by structural es => es
end
end Nog

set_option Elab.async false
set_option linter.all false
set_option maxRecDepth 100000
set_option maxHeartbeats 2000000
/-! the comparison is sound: expressions -/
namespace Nog
open PySem L2 PyProof.Rows
/-- functions of math -/
def bfN : Bi → String
  | .gcd => "math.gcd"
  | _ => "math.lcm"
structure CtxOk (P : CkP) (N : List Str) (C : Call) (FA : Nat → Option Addr) (sc : Scope) (fb : Str → Bool) (X : Cx) : Prop where
  hN : X.N = N
  nd : N.Nodup
  hs : X.env.scope = sc
  calm : X.calm = true
  hf : X.fn = fb
  room : ∃ j, Room j X.A ∧ (∀ x i n, P.T.lookup x = some (i, n) → ∃ k, k ≤ j ∧ C8.Cal X.prog X.w X.K X.mg X.base k x (spOf (gx X FA) C i n) []) ∧ ∀ x ks i π, P.kt.lookup (x, ks) = some (i, π) → ∃ k, k ≤ j ∧ CalK X.prog X.w X.K X.mg X.base k x ks π (spOf (gx X FA) C i π.length)
  blt : ∀ x ∈ bltN, X.mg x = none
  gc : ∀ x b, (x, b) ∈ P.gc → X.mg x = some (.builtin (bfN b))
  cs : ∀ x i, P.cs.lookup x = some i → ∃ t, X.mg x = some (.int i t)
section
variable {P : CkP} {N : List Str} {C : Call} {FA : Nat → Option Addr} {sc : Scope} {fb : Str → Bool} {X : Cx}
theorem CtxOk.roomC (ok : CtxOk P N C FA sc fb X) : RoomC X.A := by
  obtain ⟨j, r, _⟩ := ok.room
  have := r.un
  show X.A.units + 100 < cLine
  omega
theorem CtxOk.blk (ok : CtxOk P N C FA sc fb X) (s : Shared) (H : Hp) (scope : Scope) (D : Addr) (cl : List (Str × Addr)) (fp : List Addr) : CtxOk P N C FA (relS scope sc) (inner scope) (X.blk s H scope (compEnvC scope cl D X.env) fp) :=
  ⟨ok.hN, ok.nd, by rw [← ok.hs]; rfl, ok.calm, rfl, ok.room, ok.blt, ok.gc, ok.cs⟩
theorem CtxOk.gl (ok : CtxOk P N C FA sc fb X) {x : Str} (h : gl sc x = true) : Gl X x := by
  unfold Nog.gl at h
  show X.env.scope.names.lookup x = _
  rw [ok.hs]
  simpa using h
theorem CtxOk.bl (ok : CtxOk P N C FA sc fb X) {x : Str} (h : bl sc x = true) : Gl X x ∧ X.mg x = none := by
  unfold Nog.bl at h
  rw [Bool.and_eq_true, decide_eq_true_eq] at h
  exact ⟨ok.gl h.1, ok.blt x h.2⟩
theorem CtxOk.vis (ok : CtxOk P N C FA sc fb X) {x : Str} (h : visB sc x = true) : Vis X.env.scope x := by
  unfold visB at h
  rw [ok.hs]
  split at h <;> first | exact .inl (by assumption) | exact .inr (.inl (by assumption)) | exact .inr (.inr (by assumption)) | cases h
theorem CtxOk.loc (ok : CtxOk P N C FA sc fb X) {x : Str} (h : locB sc fb x = true) : Loc X.env.scope x ∧ (X.fn x = true ∨ X.env.scope.names.lookup x = some .local) := by
  unfold locB at h
  rw [ok.hs, ok.hf]
  split at h
  · exact ⟨.inl (by assumption), .inr (by assumption)⟩
  · exact ⟨.inr (by assumption), .inl h⟩
  · cases h
theorem noMark_of {x : Str} (h : noMark x = true) : (x == ("__debug__" : Str)) = false ∧ (x == ("__classdict__" : Str)) = false := by
  unfold noMark at h
  rw [Bool.and_eq_true, Bool.not_eq_true', Bool.not_eq_true'] at h
  exact h
theorem ck_lit {d : Nog.D} {x : Expr} (h : litB d x = true) : PE X x (tE (gx X FA) WF (ev C (.lit d))) := by
  unfold litB at h
  split at h
  · rw [decide_eq_true_eq] at h; subst h; exact sE_lit pe_int fun _ _ => .int
  · rw [decide_eq_true_eq] at h; subst h; exact sE_lit pe_bl fun _ _ => .bl
  · rw [decide_eq_true_eq] at h; subst h; exact sE_lit pe_non fun _ _ => .non
  · rw [decide_eq_true_eq] at h; subst h; exact sE_lit pe_str fun _ _ => by rw [Rep]
  · cases h
theorem ck_litG (ok : CtxOk P N C FA sc fb X) {d : Nog.D} {x : Expr} (h : litG P sc d x = true) : PE X x (tE (gx X FA) WF (ev C (.lit d))) := by
  unfold litG at h
  split at h
  · rename_i y p
    rw [Bool.and_eq_true, Bool.and_eq_true] at h
    obtain ⟨⟨h1, h3⟩, h2⟩ := h
    split at h2
    · rename_i i e
      rw [decide_eq_true_eq] at h2
      subst h2
      obtain ⟨t, ht⟩ := ok.cs y i e
      exact sE_lit (pe_glob (v := .int i) (ok.gl h1) ht ⟨_, rfl⟩ (hd := (noMark_of h3).1)) fun _ _ => .int
    · cases h2
  · cases h
theorem ck_nm (ok : CtxOk P N C FA sc fb X) {i : Nat} {x : Expr} (h : nmB N sc fb i x = true) : PG X x (gT (gx X FA) (.nm i)) := by
  unfold nmB at h
  split at h
  · rw [Bool.and_eq_true, decide_eq_true_eq] at h
    obtain ⟨l1, l2⟩ := ok.loc h.2
    exact sG_nm (by rw [ok.hN]; exact ok.nd) (by rw [ok.hN]; exact h.1) l1 l2
  · cases h
theorem ck_nms (ok : CtxOk P N C FA sc fb X) : ∀ {is : List Nat} {xs : List Expr}, nmsB N sc fb is xs = true → PGs X xs (gTs (gx X FA) is) ∧ (assignEach xs X.env).length = is.length ∧ (assignEach xs X.env).findIdx? (·.1) = none
  | [], [], _ => ⟨sGs_nil, rfl, rfl⟩
  | [], _ :: _, h => by cases h
  | _ :: _, [], h => by cases h
  | i :: is, x :: xs, h => by
    unfold nmsB at h
    rw [Bool.and_eq_true] at h
    obtain ⟨h1, h2, h3⟩ := ck_nms ok h.2
    have h0 := h.1
    unfold nmB at h0
    split at h0
    · rw [Bool.and_eq_true, decide_eq_true_eq] at h0
      obtain ⟨l1, l2⟩ := ok.loc h0.2
      rw [assign_cons rfl]
      refine ⟨sGs_cons (by rw [ok.hN]; exact ok.nd) (by rw [ok.hN]; exact h0.1) l1 l2 h1, by rw [List.length_cons, List.length_cons, h2], ?_⟩
      rw [List.findIdx?_cons, h3]
      rfl
    · cases h0
theorem ck_tg (ok : CtxOk P N C FA sc fb X) {tg : Tg} {x : Expr} (h : tgB N sc fb tg x = true) : PG X x (gT (gx X FA) tg) := by
  unfold tgB at h
  split at h
  · exact ck_nm ok h
  · split at h
    · obtain ⟨h1, h2, h3⟩ := ck_nms ok h
      exact sG_tp ok.calm h2 h3 h1
    · cases h
/-- what is shown of an expression -/
structure SndE (P : CkP) (N : List Str) (C : Call) (FA : Nat → Option Addr) (e : E) : Prop where
  pe : ∀ {sc : Scope} {fb : Str → Bool} {X : Cx} {x : Expr}, CtxOk P N C FA sc fb X → ckE P N false sc fb e x = true → PE X x (tE (gx X FA) WF (ev C e))
  pt : ∀ {sc : Scope} {fb : Str → Bool} {X : Cx} {x : Expr}, CtxOk P N C FA sc fb X → ckE P N false sc fb e x = true → noIf e = true → PT X x (tT (gx X FA) WF (ev C e))
  pw : ∀ {sc : Scope} {fb : Str → Bool} {X : Cx} {op : BoolOp} {xs : List Expr} {p : Pos}, CtxOk P N C FA sc fb X → ckE P N false sc fb e (.BoolOp op xs p) = true → noIf e = true → PW X (.BoolOp op xs p) (tT (gx X FA) WF (ev C e))
  pi : ∀ {sc : Scope} {fb : Str → Bool} {X : Cx} {x tg : Expr}, CtxOk P N C FA sc fb X → ckE P N true sc fb e x = true → (isEnu e = true → isTupX tg = true) → PI X tg x (tI X FA WF fun σ S => (ev C e σ S).bind srcM)
  pr : ∀ {sc : Scope} {fb : Str → Bool} {X : Cx} {x : Expr}, CtxOk P N C FA sc fb X → ckE P N true sc fb e x = true → isRg e = true → PRg X x (tRg (gx X FA) WF (ev C e))
/-- no test, no source of its own -/
theorem SndE.plain {e : E} (pe : ∀ {sc : Scope} {fb : Str → Bool} {X : Cx} {x : Expr}, CtxOk P N C FA sc fb X → ckE P N false sc fb e x = true → PE X x (tE (gx X FA) WF (ev C e)))
    (he : ∀ {sc : Scope} {fb : Str → Bool} {x : Expr}, ckE P N false sc fb e x = true → ∀ (env : PySem.Env) whole, isTrue x env whole = (do let v ← whole; standAt x.pos; holding [v] (truthy v)))
    (hb : ∀ {sc : Scope} {fb : Str → Bool} {op : BoolOp} {xs : List Expr} {p : Pos}, ckE P N false sc fb e (.BoolOp op xs p) = false)
    (hs : ∀ {sc : Scope} {fb : Str → Bool} {x : Expr}, ckE P N true sc fb e x = ckE P N false sc fb e x) (hr : isRg e = false) : SndE P N C FA e where
  pe := pe
  pt := fun ok h _ => sT_any (pe ok h) (he h _)
  pw := fun ok h _ => by rw [hb] at h; cases h
  pi := fun ok h _ => sI_any (pe ok (by rw [← hs]; exact h))
  pr := fun _ _ h => by rw [hr] at h; cases h
end
end Nog

set_option Elab.async false
set_option linter.all false
set_option maxRecDepth 100000
set_option maxHeartbeats 2000000
/-! the comparison is sound: the cases -/
namespace Nog
open PySem L2 PyProof.Rows
section
variable {P : CkP} {N : List Str} {C : Call} {FA : Nat → Option Addr}
structure SndL (P : CkP) (N : List Str) (C : Call) (FA : Nat → Option Addr) (es : List E) : Prop where
  pa : ∀ {sc : Scope} {fb : Str → Bool} {X : Cx} {xs : List Expr}, CtxOk P N C FA sc fb X → ckL P N sc fb es xs = true → PA X xs (tA (gx X FA) WF (evs C es)) ∧ (∀ x ∈ xs, isPlainE x = true) ∧ xs.length = es.length
  pk : ∀ {sc : Scope} {fb : Str → Bool} {X : Cx} {kws : List Keyword}, CtxOk P N C FA sc fb X → ckL P N sc fb es (kws.map (·.value)) = true → PK X kws (tA (gx X FA) WF (evs C es)) ∧ (kws.map (·.value)).length = es.length
structure SndI (P : CkP) (N : List Str) (C : Call) (FA : Nat → Option Addr) (es : List E) : Prop where
  pts : ∀ {sc : Scope} {fb : Str → Bool} {X : Cx} {xs : List Expr}, CtxOk P N C FA sc fb X → ckI P N sc fb es xs = true → PTs X xs (tTs (gx X FA) WF (evi C es))
variable {a b c : E} {es : List E}
theorem tE_of {X : Cx} {x : Expr} {e : E} {m : Env → Sto → Rs Pv} (h : PE X x (tE (gx X FA) WF m)) (q : ∀ σ S, ev C e σ S = m σ S) : PE X x (tE (gx X FA) WF (ev C e)) := by
  have : ev C e = m := by funext σ S; exact q σ S
  rw [this]; exact h
theorem tT_of {X : Cx} {x : Expr} {e : E} {m : Env → Sto → Rs Pv} (h : PT X x (tT (gx X FA) WF m)) (q : ∀ σ S, ev C e σ S = m σ S) : PT X x (tT (gx X FA) WF (ev C e)) := by
  have : ev C e = m := by funext σ S; exact q σ S
  rw [this]; exact h
theorem tW_of {X : Cx} {x : Expr} {e : E} {m : Env → Sto → Rs Pv} (h : PW X x (tT (gx X FA) WF m)) (q : ∀ σ S, ev C e σ S = m σ S) : PW X x (tT (gx X FA) WF (ev C e)) := by
  have : ev C e = m := by funext σ S; exact q σ S
  rw [this]; exact h
theorem snd_var {i : Nat} : SndE P N C FA (.var i) := by
  refine .plain (fun {sc fb X x} ok h => ?_) (fun {sc fb x} h env whole => ?_) (fun {sc fb op xs p} => by rw [ckE]; rfl) (fun {sc fb x} => by rw [ckE, ckE]) rfl
  · rw [ckE] at h
    unfold ck_var at h
    split at h
    · simp only [Bool.and_eq_true, decide_eq_true_eq] at h
      obtain ⟨m1, m2⟩ := noMark_of h.2
      exact sE_var (by rw [ok.hN]; exact h.1.1) (ok.vis h.1.2) m1 m2
    · cases h
  · rw [ckE] at h
    unfold ck_var at h
    split at h
    · rfl
    · cases h
theorem snd_lit {d : Nog.D} : SndE P N C FA (.lit d) := by
  refine .plain (fun {sc fb X x} ok h => by rw [ckE, Bool.or_eq_true] at h; exact h.elim ck_lit (ck_litG ok)) (fun {sc fb x} h env whole => ?_) (fun {sc fb op xs p} => by rw [ckE]; rfl) (fun {sc fb x} => by rw [ckE, ckE]) rfl
  rw [ckE, Bool.or_eq_true] at h
  rcases h with h | h
  · unfold litB at h
    split at h <;> first | rfl | cases h
  · unfold litG at h
    split at h <;> first | rfl | cases h
theorem snd_tup (l : SndL P N C FA es) : SndE P N C FA (.tup es) := by
  refine .plain (fun {sc fb X x} ok h => ?_) (fun {sc fb x} h env whole => ?_) (fun {sc fb op xs p} => by rw [ckE]; rfl) (fun {sc fb x} => by rw [ckE, ckE]) rfl
  · rw [ckE] at h
    unfold ck_tup at h
    split at h
    · rw [Bool.and_eq_true, decide_eq_true_eq] at h
      obtain ⟨h1, h2, h3⟩ := l.pa ok h.1
      exact tE_of (sE_tup h.2 h1 fun σ S ds S' e => by rw [h3]; exact evs_length C es σ S ds S' e) fun σ S => by rw [ev] <;> rfl
    · cases h
  · rw [ckE] at h
    unfold ck_tup at h
    split at h
    · rfl
    · cases h
theorem snd_lst (l : SndL P N C FA es) : SndE P N C FA (.lst es) := by
  refine .plain (fun {sc fb X x} ok h => ?_) (fun {sc fb x} h env whole => ?_) (fun {sc fb op xs p} => by rw [ckE]; rfl) (fun {sc fb x} => by rw [ckE, ckE]) rfl
  · rw [ckE] at h
    unfold ck_lst at h
    split at h
    · rw [Bool.and_eq_true, decide_eq_true_eq] at h
      obtain ⟨h1, h2, h3⟩ := l.pa ok h.1
      exact tE_of (sE_lst h.2 h1 fun σ S ds S' e => by rw [h3]; exact evs_length C es σ S ds S' e) fun σ S => by rw [ev] <;> rfl
    · cases h
  · rw [ckE] at h
    unfold ck_lst at h
    split at h
    · rfl
    · cases h
theorem snd_dc0 : SndE P N C FA .dc0 := by
  refine .plain (fun {sc fb X x} ok h => ?_) (fun {sc fb x} h env whole => ?_) (fun {sc fb op xs p} => by rw [ckE]; rfl) (fun {sc fb x} => by rw [ckE, ckE]) rfl
  · rw [ckE] at h
    unfold ck_dc0 at h
    split at h
    · exact tE_of sE_dc0 fun σ S => by rw [ev] <;> rfl
    · cases h
  · rw [ckE] at h
    unfold ck_dc0 at h
    split at h
    · rfl
    · cases h
theorem snd_dc1 (ha : SndE P N C FA a) (hb : SndE P N C FA b) : SndE P N C FA (.dc1 a b) := by
  refine .plain (fun {sc fb X x} ok h => ?_) (fun {sc fb x} h env whole => ?_) (fun {sc fb op xs p} => by rw [ckE]; rfl) (fun {sc fb x} => by rw [ckE, ckE]) rfl
  · rw [ckE] at h
    unfold ck_dc1 at h
    split at h
    · rw [Bool.and_eq_true] at h
      exact tE_of (sE_dc1 ok.roomC (ha.pe ok h.1) (hb.pe ok h.2)) fun σ S => by rw [ev] <;> rfl
    · cases h
  · rw [ckE] at h
    unfold ck_dc1 at h
    split at h
    · rfl
    · cases h
theorem snd_bin {o : Op} (ha : SndE P N C FA a) (hb : SndE P N C FA b) : SndE P N C FA (.bin o a b) := by
  refine .plain (fun {sc fb X x} ok h => ?_) (fun {sc fb x} h env whole => ?_) (fun {sc fb op xs p} => by rw [ckE]; rfl) (fun {sc fb x} => by rw [ckE, ckE]) rfl
  · rw [ckE] at h
    unfold ck_bin at h
    split at h
    · simp only [Bool.and_eq_true, decide_eq_true_eq] at h
      obtain ⟨⟨h0, h1⟩, h2⟩ := h
      subst h0
      exact tE_of (sE_bin (ha.pe ok h1) (hb.pe ok h2)) fun σ S => by rw [ev] <;> rfl
    · cases h
  · rw [ckE] at h
    unfold ck_bin at h
    split at h
    · rfl
    · cases h
theorem snd_neg (ha : SndE P N C FA a) : SndE P N C FA (.neg a) := by
  refine .plain (fun {sc fb X x} ok h => ?_) (fun {sc fb x} h env whole => ?_) (fun {sc fb op xs p} => by rw [ckE]; rfl) (fun {sc fb x} => by rw [ckE, ckE]) rfl
  · rw [ckE] at h
    unfold ck_neg at h
    split at h
    · exact tE_of (sE_neg (ha.pe ok h)) fun σ S => by rw [ev] <;> rfl
    · cases h
  · rw [ckE] at h
    unfold ck_neg at h
    split at h
    · rfl
    · cases h
theorem snd_ix (ha : SndE P N C FA a) (hb : SndE P N C FA b) : SndE P N C FA (.ix a b) := by
  refine .plain (fun {sc fb X x} ok h => ?_) (fun {sc fb x} h env whole => ?_) (fun {sc fb op xs p} => by rw [ckE]; rfl) (fun {sc fb x} => by rw [ckE, ckE]) rfl
  · rw [ckE] at h
    unfold ck_ix at h
    split at h
    · simp only [Bool.and_eq_true] at h
      exact tE_of (sE_ix ok.roomC h.1.1 (ha.pe ok h.1.2) (hb.pe ok h.2)) fun σ S => by rw [ev] <;> rfl
    · cases h
  · rw [ckE] at h
    unfold ck_ix at h
    split at h
    · rfl
    · cases h
theorem snd_sl (ha : SndE P N C FA a) (hb : SndE P N C FA b) (hc : SndE P N C FA c) : SndE P N C FA (.sl a b c) := by
  refine .plain (fun {sc fb X x} ok h => ?_) (fun {sc fb x} h env whole => ?_) (fun {sc fb op xs p} => by rw [ckE]; rfl) (fun {sc fb x} => by rw [ckE, ckE]) rfl
  · rw [ckE] at h
    unfold ck_sl at h
    split at h <;> first | (cases h; done) | skip
    simp only [Bool.and_eq_true] at h
    obtain ⟨⟨h1, h2⟩, h3⟩ := h
    have lit : ∀ {e : E}, e.isNonL = true → e = .lit .non := fun {e} q => by
      cases e <;> first | (cases q; done) | skip
      rename_i d
      cases d <;> first | rfl | (cases q; done)
    have nl : ∀ {e : E}, (!e.isNonL) = true → e ≠ .lit .non := fun {e} q z => by subst z; cases q
    have hl : ∀ {e : E} (he : SndE P N C FA e) (o : Option Expr), (match o with
          | none => decide (e.isNonL = true)
          | some l => !e.isNonL && ckE P N false sc fb e l) = true → PO X o (tO (gx X FA) WF e (ev C e)) := fun {e} he o q => by
      cases o with
      | none =>
        simp only [decide_eq_true_eq] at q
        rw [lit q]
        exact sO_none
      | some l =>
        simp only [Bool.and_eq_true] at q
        exact sO_some (nl q.1) (he.pe ok q.2)
    exact tE_of (sE_sl (ha.pe ok h1) (hl hb _ h2) (hl hc _ h3)) fun σ S => by rw [ev] <;> rfl
  · rw [ckE] at h
    unfold ck_sl at h
    split at h
    · rfl
    · cases h
theorem snd_call {f : Nat} (l : SndL P N C FA es) : SndE P N C FA (.call f es) := by
  refine .plain (fun {sc fb X x} ok h => ?_) (fun {sc fb x} h env whole => ?_) (fun {sc fb op xs p} => by rw [ckE]; rfl) (fun {sc fb x} => by rw [ckE, ckE]) rfl
  · rw [ckE] at h
    unfold ck_call at h
    split at h <;> first | (cases h; done) | skip
    simp only [Bool.and_eq_true, decide_eq_true_eq, List.all_eq_true] at h
    obtain ⟨⟨⟨⟨⟨h1, h2⟩, h3⟩, h4⟩, h5⟩, h6⟩ := h
    split at h1 <;> first | (cases h1; done) | skip
    rename_i i n ht
    simp only [Bool.and_eq_true, decide_eq_true_eq] at h1
    obtain ⟨rfl, h1⟩ := h1
    obtain ⟨j, hr, hT, hTk⟩ := ok.room
    obtain ⟨k, hk, cal⟩ := hT _ _ _ ht
    obtain ⟨l1, l2, l3⟩ := l.pa ok h6
    rename_i xs _ _
    cases xs with
    | nil => exact absurd rfl h2
    | cons y ys => exact tE_of (sE_call cal hr hk (ok.gl h3) (noMark_of h4).1 l2 h1 l1 fun σ S ds S' e => by rw [l3]; exact evs_length C es σ S ds S' e) fun σ S => by rw [ev] <;> rfl
  · rw [ckE] at h
    unfold ck_call at h
    split at h
    · rfl
    · cases h
theorem snd_callk {f : Nat} {π : List Nat} (l : SndL P N C FA es) : SndE P N C FA (.callk f π es) := by
  refine .plain (fun {sc fb X x} ok h => ?_) (fun {sc fb x} h env whole => ?_) (fun {sc fb op xs p} => by rw [ckE]; rfl) (fun {sc fb x} => by rw [ckE, ckE]) rfl
  · rw [ckE] at h
    unfold ck_callk at h
    split at h <;> first | (cases h; done) | skip
    simp only [Bool.and_eq_true] at h
    obtain ⟨⟨⟨h1, h3⟩, h4⟩, h6⟩ := h
    split at h1 <;> first | (cases h1; done) | skip
    rename_i ks hks
    split at h1 <;> first | (cases h1; done) | skip
    rename_i i π' ht
    simp only [Bool.and_eq_true, decide_eq_true_eq] at h1
    obtain ⟨rfl, rfl⟩ := h1
    obtain ⟨j, hr, _, hT⟩ := ok.room
    obtain ⟨k, hk, cal⟩ := hT _ _ _ _ ht
    obtain ⟨l1, l3⟩ := l.pk ok h6
    have hl := (kwn_ok (pos := ⟨0, 0, 0, 0⟩) (env := X.env) hks).2.2.2
    exact tE_of (sE_callk cal hr hk (ok.gl h3) (noMark_of h4).1 hks rfl l1 fun σ S ds S' e => by rw [evs_length C es σ S ds S' e, hl, ← l3, List.length_map]) fun σ S => by rw [ev] <;> rfl
  · rw [ckE] at h
    unfold ck_callk at h
    split at h
    · rfl
    · cases h
theorem snd_b2 {o : Bi} (ha : SndE P N C FA a) (hb : SndE P N C FA b) : SndE P N C FA (.b2 o a b) := by
  refine .plain (fun {sc fb X x} ok h => ?_) (fun {sc fb x} h env whole => ?_) (fun {sc fb op xs p} => by rw [ckE]; rfl) (fun {sc fb x} => by rw [ckE, ckE]) rfl
  · rw [ckE] at h
    unfold ck_b2 at h
    split at h <;> first | (cases h; done) | skip
    simp only [Bool.and_eq_true] at h
    obtain ⟨⟨⟨⟨⟨⟨h1, h2⟩, h3⟩, h4⟩, h5⟩, h6⟩, h7⟩ := h
    split at h5
    · rename_i z hz
      have hm : X.mg z = none := ok.blt z (by cases o <;> first | (cases hz; done) | (cases hz; decide))
      rw [decide_eq_true_eq] at h5
      subst h5
      exact tE_of (sE_b2 ok.calm hz (ok.gl h3) hm h1 h2 (ha.pe ok h6) (hb.pe ok h7)) fun σ S => by rw [ev] <;> rfl
    · simp only [Bool.and_eq_true, Bool.or_eq_true, decide_eq_true_eq] at h5
      obtain ⟨hb5, h5⟩ := h5
      rcases hb5 with rfl | rfl
      · exact tE_of (sE_gcd (ok.gl h3) (ok.gc _ _ h5) (noMark_of h4).1 h1 h2 (ha.pe ok h6) (hb.pe ok h7)) fun σ S => by rw [ev] <;> rfl
      · exact tE_of (sE_lcm (ok.gl h3) (ok.gc _ _ h5) (noMark_of h4).1 h1 h2 (ha.pe ok h6) (hb.pe ok h7)) fun σ S => by rw [ev] <;> rfl
  · rw [ckE] at h
    unfold ck_b2 at h
    split at h
    · rfl
    · cases h
theorem snd_mxd {o : Bi} (ha : SndE P N C FA a) (hb : SndE P N C FA b) : SndE P N C FA (.mxd o a b) := by
  refine .plain (fun {sc fb X x} ok h => ?_) (fun {sc fb x} h env whole => ?_) (fun {sc fb op xs p} => by rw [ckE]; rfl) (fun {sc fb x} => by rw [ckE, ckE]) rfl
  · rw [ckE] at h
    unfold ck_mxd at h
    split at h <;> first | (cases h; done) | skip
    simp only [Bool.and_eq_true, decide_eq_true_eq] at h
    obtain ⟨⟨⟨⟨⟨h1, h2⟩, h3⟩, h4⟩, h5⟩, h6⟩ := h
    split at h1 <;> first | (cases h1; done) | skip
    rename_i z hz
    rw [decide_eq_true_eq] at h1
    subst h1
    obtain ⟨g, hm⟩ := ok.bl h3
    exact tE_of (sE_mxd ok.calm ok.roomC hz h2 g hm h4 (ha.pe ok h5) (hb.pe ok h6)) fun σ S => by rw [ev] <;> rfl
  · rw [ckE] at h
    unfold ck_mxd at h
    split at h
    · rfl
    · cases h
theorem snd_isi {t : Ty} (ha : SndE P N C FA a) : SndE P N C FA (.isi a t) := by
  refine .plain (fun {sc fb X x} ok h => ?_) (fun {sc fb x} h env whole => ?_) (fun {sc fb op xs p} => by rw [ckE]; rfl) (fun {sc fb x} => by rw [ckE, ckE]) rfl
  · rw [ckE] at h
    unfold ck_isi at h
    split at h <;> first | (cases h; done) | skip
    simp only [Bool.and_eq_true, decide_eq_true_eq] at h
    obtain ⟨⟨⟨⟨⟨h1, h2⟩, h3⟩, h4⟩, h5⟩, h6⟩ := h
    subst h1
    obtain ⟨g, hm⟩ := ok.bl h2
    obtain ⟨g2, hm2⟩ := ok.bl h3
    split at h4 <;> first | (cases h4; done) | skip
    rename_i z hz
    rw [decide_eq_true_eq] at h4
    subst h4
    obtain ⟨b1, b2, b3, b4, b5, b6, b7, b8, b9, b10, b11, b12, b13⟩ := boots
    cases t <;> first | (cases hz; done) | cases hz
    · exact tE_of (sE_isi (t := .int) rfl b11 (by decide) (by decide) g hm g2 hm2 h5 (ha.pe ok h6)) fun σ S => by rw [ev] <;> rfl
    · exact tE_of (sE_isi (t := .bool) rfl b12 (by decide) (by decide) g hm g2 hm2 h5 (ha.pe ok h6)) fun σ S => by rw [ev] <;> rfl
    · exact tE_of (sE_isi (t := .str) rfl b13 (by decide) (by decide) g hm g2 hm2 h5 (ha.pe ok h6)) fun σ S => by rw [ev] <;> rfl
    · exact tE_of (sE_isi (t := .tuple) rfl b8 (by decide) (by decide) g hm g2 hm2 h5 (ha.pe ok h6)) fun σ S => by rw [ev] <;> rfl
    · exact tE_of (sE_isi (t := .list) rfl b9 (by decide) (by decide) g hm g2 hm2 h5 (ha.pe ok h6)) fun σ S => by rw [ev] <;> rfl
  · rw [ckE] at h
    unfold ck_isi at h
    split at h
    · rfl
    · cases h
theorem tyX_ok {t : Ty} {z : Str} {n : String} (h : tyX t = some (z, n)) : tyN t = some n ∧ bootBuiltins z = some (.type n) ∧ z ≠ "__name__" ∧ (z == ("__debug__" : Str)) = false := by
  obtain ⟨b1, b2, b3, b4, b5, b6, b7, b8, b9, b10, b11, b12, b13⟩ := boots
  cases t <;> first | (cases h; done) | cases h
  · exact ⟨rfl, b11, by decide, by decide⟩
  · exact ⟨rfl, b12, by decide, by decide⟩
  · exact ⟨rfl, b13, by decide, by decide⟩
  · exact ⟨rfl, b8, by decide, by decide⟩
  · exact ⟨rfl, b9, by decide, by decide⟩
theorem snd_isi2 {t t2 : Ty} (ha : SndE P N C FA a) : SndE P N C FA (.isi2 a t t2) := by
  refine .plain (fun {sc fb X x} ok h => ?_) (fun {sc fb x} h env whole => ?_) (fun {sc fb op xs p} => by rw [ckE]; rfl) (fun {sc fb x} => by rw [ckE, ckE]) rfl
  · rw [ckE] at h
    unfold ck_isi2 at h
    split at h <;> first | (cases h; done) | skip
    simp only [Bool.and_eq_true, decide_eq_true_eq] at h
    obtain ⟨⟨⟨⟨⟨⟨⟨h1, h2⟩, h3⟩, h3'⟩, h4⟩, h4'⟩, h5⟩, h6⟩ := h
    subst h1
    obtain ⟨g, hm⟩ := ok.bl h2
    obtain ⟨g2, hm2⟩ := ok.bl h3
    obtain ⟨g3, hm3⟩ := ok.bl h3'
    split at h4 <;> first | (cases h4; done) | skip
    rename_i z1 n1 hz1
    split at h4' <;> first | (cases h4'; done) | skip
    rename_i z2 n2 hz2
    rw [decide_eq_true_eq] at h4 h4'
    subst h4 h4'
    obtain ⟨k1, k2, k3, k4⟩ := tyX_ok hz1
    obtain ⟨k5, k6, k7, k8⟩ := tyX_ok hz2
    exact tE_of (sE_isi2 k1 k2 k3 k4 k5 k6 k7 k8 g hm g2 hm2 g3 hm3 h5 (ha.pe ok h6)) fun σ S => by rw [ev] <;> rfl
  · rw [ckE] at h
    unfold ck_isi2 at h
    split at h
    · rfl
    · cases h
theorem snd_lset (ha : SndE P N C FA a) : SndE P N C FA (.lset a) := by
  refine .plain (fun {sc fb X x} ok h => ?_) (fun {sc fb x} h env whole => ?_) (fun {sc fb op xs p} => by rw [ckE]; rfl) (fun {sc fb x} => by rw [ckE, ckE]) rfl
  · rw [ckE] at h
    unfold ck_lset at h
    split at h <;> first | (cases h; done) | skip
    simp only [Bool.and_eq_true, decide_eq_true_eq] at h
    obtain ⟨⟨⟨⟨⟨h1, h2⟩, h3⟩, h4⟩, h5⟩, h6⟩ := h
    subst h1 h2
    obtain ⟨g, hm⟩ := ok.bl h3
    obtain ⟨g2, hm2⟩ := ok.bl h4
    exact tE_of (sE_lset ok.calm g hm g2 hm2 h5 (ha.pe ok h6)) fun σ S => by rw [ev] <;> rfl
  · rw [ckE] at h
    unfold ck_lset at h
    split at h
    · rfl
    · cases h
theorem snd_ms {m : Me} (ha : SndE P N C FA a) (l : SndL P N C FA es) : SndE P N C FA (.ms m a es) := by
  refine .plain (fun {sc fb X x} ok h => ?_) (fun {sc fb x} h env whole => ?_) (fun {sc fb op xs p} => by rw [ckE]; rfl) (fun {sc fb x} => by rw [ckE, ckE]) rfl
  · rw [ckE] at h
    unfold ck_ms at h
    split at h <;> first | (cases h; done) | skip
    simp only [Bool.and_eq_true] at h
    obtain ⟨⟨⟨⟨⟨h1, h2⟩, h3⟩, h4⟩, h5⟩, h6⟩ := h
    split at h1 <;> first | (cases h1; done) | skip
    rename_i T nm' id ht
    rw [decide_eq_true_eq] at h1
    subst h1
    unfold fewB at h4
    simp only [Bool.and_eq_true, decide_eq_true_eq, List.all_eq_true] at h4
    obtain ⟨l1, l2, l3⟩ := l.pa ok h6
    rename_i xs _ _
    cases xs with
    | nil =>
      cases es with
      | nil => exact tE_of (sE_ms0 ok.roomC ht (ha.pe ok h5) h2 h3) fun σ S => by rw [ev] <;> rfl
      | cons _ _ => cases l3
    | cons y ys => exact tE_of (sE_msN ok.roomC ht (ha.pe ok h5) l1 h2 h3 l2 h4.2) fun σ S => by rw [ev] <;> rfl
  · rw [ckE] at h
    unfold ck_ms at h
    split at h
    · rfl
    · cases h
theorem snd_ext (ha : SndE P N C FA a) (hb : SndE P N C FA b) : SndE P N C FA (.ext a b) := by
  refine .plain (fun {sc fb X x} ok h => ?_) (fun {sc fb x} h env whole => ?_) (fun {sc fb op xs p} => by rw [ckE]; rfl) (fun {sc fb x} => by rw [ckE, ckE]) rfl
  · rw [ckE] at h
    unfold ck_ext at h
    split at h <;> first | (cases h; done) | skip
    simp only [Bool.and_eq_true, decide_eq_true_eq] at h
    obtain ⟨⟨⟨⟨⟨h1, h2⟩, h3⟩, h4⟩, h5⟩, h6⟩ := h
    subst h1
    exact tE_of (sE_ext (ha.pe ok h5) (hb.pe ok h6) h2 h3 h4) fun σ S => by rw [ev] <;> rfl
  · rw [ckE] at h
    unfold ck_ext at h
    split at h
    · rfl
    · cases h
theorem snd_b1 {o : Bi} (ha : SndE P N C FA a) : SndE P N C FA (.b1 o a) := by
  refine .plain (fun {sc fb X x} ok h => ?_) (fun {sc fb x} h env whole => ?_) (fun {sc fb op xs p} => by rw [ckE]; rfl) (fun {sc fb x} => by rw [ckE, ckE]) rfl
  · rw [ckE] at h
    unfold ck_b1 at h
    split at h <;> first | (cases h; done) | skip
    simp only [Bool.and_eq_true] at h
    obtain ⟨⟨⟨h1, h2⟩, h3⟩, h4⟩ := h
    split at h1 <;> first | (cases h1; done) | skip
    rename_i z f hz
    rw [decide_eq_true_eq] at h1
    subst h1
    obtain ⟨g, hm⟩ := ok.bl h2
    split at h4
    · rename_i hrg
      simp only [Bool.and_eq_true, Bool.or_eq_true, decide_eq_true_eq] at h4
      rcases h4 with ⟨rfl | rfl, h4⟩
      · cases hz
        exact tE_of (sE_tupRg ok.calm g hm h3 (ha.pr ok h4 hrg)) fun σ S => by rw [ev] <;> rfl
      · cases hz
        exact tE_of (sE_lstRg ok.calm g hm h3 (ha.pr ok h4 hrg)) fun σ S => by rw [ev] <;> rfl
    · exact tE_of (sE_b1 ok.calm ok.roomC hz g hm h3 (ha.pe ok h4)) fun σ S => by rw [ev] <;> rfl
  · rw [ckE] at h
    unfold ck_b1 at h
    split at h
    · rfl
    · cases h
end
end Nog

set_option Elab.async false
set_option linter.all false
set_option maxRecDepth 100000
set_option maxHeartbeats 2000000
/-! the comparison is sound: tests, sources -/
namespace Nog
open PySem L2 PyProof.Rows
section
variable {P : CkP} {N : List Str} {C : Call} {FA : Nat → Option Addr} {a b c : E} {es : List E}
theorem snd_nt (ha : SndE P N C FA a) : SndE P N C FA (.nt a) := by
  have pe : ∀ {sc : Scope} {fb : Str → Bool} {X : Cx} {x : Expr}, CtxOk P N C FA sc fb X → ckE P N false sc fb (.nt a) x = true → PE X x (tE (gx X FA) WF (ev C (.nt a))) := fun {sc fb X x} ok h => by
    rw [ckE] at h
    unfold ck_nt at h
    split at h <;> first | (cases h; done) | skip
    exact tE_of (sE_nt (ha.pe ok h)) fun σ S => by rw [ev] <;> rfl
  refine ⟨pe, fun {sc fb X x} ok h hn => ?_, fun {sc fb X op xs p} ok h => ?_, fun {sc fb X x tg} ok h _ => sI_any (pe ok (by rw [ckE] at h ⊢; exact h)), fun _ _ h => by cases h⟩
  · rw [ckE] at h
    unfold ck_nt at h
    split at h <;> first | (cases h; done) | skip
    exact tT_of (sT_nt (ha.pt ok h hn)) fun σ S => by rw [ev] <;> rfl
  · rw [ckE] at h
    cases h
theorem snd_cmp {o : Cm} (ha : SndE P N C FA a) (hb : SndE P N C FA b) : SndE P N C FA (.cmp o a b) := by
  have pe : ∀ {sc : Scope} {fb : Str → Bool} {X : Cx} {x : Expr}, CtxOk P N C FA sc fb X → ckE P N false sc fb (.cmp o a b) x = true → PE X x (tE (gx X FA) WF (ev C (.cmp o a b))) := fun {sc fb X x} ok h => by
    rw [ckE] at h
    unfold ck_cmp at h
    split at h <;> first | (cases h; done) | skip
    simp only [Bool.and_eq_true, decide_eq_true_eq] at h
    obtain ⟨⟨⟨rfl, h1⟩, h2⟩, h3⟩ := h
    exact tE_of (sE_cmp ok.roomC h1 (ha.pe ok h2) (hb.pe ok h3)) fun σ S => by rw [ev] <;> rfl
  refine ⟨pe, fun {sc fb X x} ok h hn => ?_, fun {sc fb X op xs p} ok h => ?_, fun {sc fb X x tg} ok h _ => sI_any (pe ok (by rw [ckE] at h ⊢; exact h)), fun _ _ h => by cases h⟩
  · rw [ckE] at h
    unfold ck_cmp at h
    split at h <;> first | (cases h; done) | skip
    simp only [Bool.and_eq_true, decide_eq_true_eq] at h
    obtain ⟨⟨⟨rfl, h1⟩, h2⟩, h3⟩ := h
    exact tT_of (sT_cmp ok.roomC h1 (ha.pe ok h2) (hb.pe ok h3)) fun σ S => by rw [ev] <;> rfl
  · rw [ckE] at h
    cases h
theorem snd_chn {o o' : Cm} (ha : SndE P N C FA a) (hb : SndE P N C FA b) (hc : SndE P N C FA c) : SndE P N C FA (.chn o o' a b c) := by
  have pe : ∀ {sc : Scope} {fb : Str → Bool} {X : Cx} {x : Expr}, CtxOk P N C FA sc fb X → ckE P N false sc fb (.chn o o' a b c) x = true → PE X x (tE (gx X FA) WF (ev C (.chn o o' a b c))) := fun {sc fb X x} ok h => by
    rw [ckE] at h
    unfold ck_chn at h
    split at h <;> first | (cases h; done) | skip
    simp only [Bool.and_eq_true, decide_eq_true_eq] at h
    obtain ⟨⟨⟨⟨⟨rfl, rfl⟩, h1⟩, h2⟩, h3⟩, h4⟩ := h
    exact tE_of (sE_chn ok.roomC h1 (ha.pe ok h2) (hb.pe ok h3) (hc.pe ok h4)) fun σ S => by rw [ev] <;> rfl
  refine ⟨pe, fun {sc fb X x} ok h hn => ?_, fun {sc fb X op xs p} ok h => ?_, fun {sc fb X x tg} ok h _ => sI_any (pe ok (by rw [ckE] at h ⊢; exact h)), fun _ _ h => by cases h⟩
  · rw [ckE] at h
    unfold ck_chn at h
    split at h <;> first | (cases h; done) | skip
    simp only [Bool.and_eq_true, decide_eq_true_eq] at h
    obtain ⟨⟨⟨⟨⟨rfl, rfl⟩, h1⟩, h2⟩, h3⟩, h4⟩ := h
    exact tT_of (sT_chn ok.roomC h1 (ha.pe ok h2) (hb.pe ok h3) (hc.pe ok h4)) fun σ S => by rw [ev] <;> rfl
  · rw [ckE] at h
    cases h
theorem snd_isn (ha : SndE P N C FA a) : SndE P N C FA (.isn a) := by
  have pe : ∀ {sc : Scope} {fb : Str → Bool} {X : Cx} {x : Expr}, CtxOk P N C FA sc fb X → ckE P N false sc fb (.isn a) x = true → PE X x (tE (gx X FA) WF (ev C (.isn a))) := fun {sc fb X x} ok h => by
    rw [ckE] at h
    unfold ck_isn at h
    split at h <;> first | (cases h; done) | skip
    exact tE_of (sE_isn (ha.pe ok h)) fun σ S => by rw [ev] <;> rfl
  refine ⟨pe, fun {sc fb X x} ok h hn => ?_, fun {sc fb X op xs p} ok h => ?_, fun {sc fb X x tg} ok h _ => sI_any (pe ok (by rw [ckE] at h ⊢; exact h)), fun _ _ h => by cases h⟩
  · rw [ckE] at h
    unfold ck_isn at h
    split at h <;> first | (cases h; done) | skip
    exact tT_of (sT_isn (ha.pe ok h)) fun σ S => by rw [ev] <;> rfl
  · rw [ckE] at h
    cases h
theorem snd_nisn (ha : SndE P N C FA a) : SndE P N C FA (.nisn a) := by
  have pe : ∀ {sc : Scope} {fb : Str → Bool} {X : Cx} {x : Expr}, CtxOk P N C FA sc fb X → ckE P N false sc fb (.nisn a) x = true → PE X x (tE (gx X FA) WF (ev C (.nisn a))) := fun {sc fb X x} ok h => by
    rw [ckE] at h
    unfold ck_nisn at h
    split at h <;> first | (cases h; done) | skip
    exact tE_of (sE_nisn (ha.pe ok h)) fun σ S => by rw [ev] <;> rfl
  refine ⟨pe, fun {sc fb X x} ok h hn => ?_, fun {sc fb X op xs p} ok h => ?_, fun {sc fb X x tg} ok h _ => sI_any (pe ok (by rw [ckE] at h ⊢; exact h)), fun _ _ h => by cases h⟩
  · rw [ckE] at h
    unfold ck_nisn at h
    split at h <;> first | (cases h; done) | skip
    exact tT_of (sT_nisn (ha.pe ok h)) fun σ S => by rw [ev] <;> rfl
  · rw [ckE] at h
    cases h
theorem snd_ite (hc : SndE P N C FA c) (ha : SndE P N C FA a) (hb : SndE P N C FA b) : SndE P N C FA (.ite c a b) := by
  have pe : ∀ {sc : Scope} {fb : Str → Bool} {X : Cx} {x : Expr}, CtxOk P N C FA sc fb X → ckE P N false sc fb (.ite c a b) x = true → PE X x (tE (gx X FA) WF (ev C (.ite c a b))) := fun {sc fb X x} ok h => by
    rw [ckE] at h
    unfold ck_ite at h
    split at h <;> first | (cases h; done) | skip
    simp only [Bool.and_eq_true] at h
    obtain ⟨⟨⟨h0, h1⟩, h2⟩, h3⟩ := h
    exact tE_of (sE_ite (hc.pt ok h1 h0) (ha.pe ok h2) (hb.pe ok h3)) fun σ S => by rw [ev] <;> rfl
  refine ⟨pe, fun {sc fb X x} ok h hn => ?_, fun {sc fb X op xs p} ok h => ?_, fun {sc fb X x tg} ok h _ => sI_any (pe ok (by rw [ckE] at h ⊢; exact h)), fun _ _ h => by cases h⟩
  · cases hn
  · rw [ckE] at h
    cases h
theorem snd_an (ha : SndE P N C FA a) (hb : SndE P N C FA b) : SndE P N C FA (.an a b) := by
  have pe : ∀ {sc : Scope} {fb : Str → Bool} {X : Cx} {x : Expr}, CtxOk P N C FA sc fb X → ckE P N false sc fb (.an a b) x = true → PE X x (tE (gx X FA) WF (ev C (.an a b))) := fun {sc fb X x} ok h => by
    rw [ckE] at h
    unfold ck_an at h
    split at h <;> first | (cases h; done) | skip
    · simp only [Bool.and_eq_true] at h
      exact tE_of (sE_an (ha.pe ok h.1) (sE_one (hb.pe ok h.2))) fun σ S => by rw [ev] <;> rfl
    · simp only [Bool.and_eq_true] at h
      exact tE_of (sE_an (ha.pe ok h.1) (hb.pe ok h.2)) fun σ S => by rw [ev] <;> rfl
  have pw : ∀ {sc : Scope} {fb : Str → Bool} {X : Cx} {op : BoolOp} {xs : List Expr} {p : Pos}, CtxOk P N C FA sc fb X → ckE P N false sc fb (.an a b) (.BoolOp op xs p) = true → noIf (.an a b) = true → PW X (.BoolOp op xs p) (tT (gx X FA) WF (ev C (.an a b))) := fun {sc fb X op xs p} ok h hn => by
    rw [noIf, Bool.and_eq_true] at hn
    rw [ckE] at h
    unfold ck_an at h
    split at h <;> first | (cases h; done) | skip
    · rename_i u v p' q
      cases q
      simp only [Bool.and_eq_true] at h
      exact tW_of (sT_an (ha.pt ok h.1 hn.1) (sT_an1 (hb.pt ok h.2 hn.2))) fun σ S => by rw [ev] <;> rfl
    · rename_i u v w r p' q
      cases q
      simp only [Bool.and_eq_true] at h
      exact tW_of (sT_an (ha.pt ok h.1 hn.1) (hb.pw ok h.2 hn.2)) fun σ S => by rw [ev] <;> rfl
  refine ⟨pe, fun {sc fb X x} ok h hn => ?_, pw, fun {sc fb X x tg} ok h _ => sI_any (pe ok (by rw [ckE] at h ⊢; exact h)), fun _ _ h => by cases h⟩
  have h' := h
  rw [ckE] at h'
  unfold ck_an at h'
  split at h' <;> first | (cases h'; done) | exact (pw ok h hn).pt
theorem snd_orr (ha : SndE P N C FA a) (hb : SndE P N C FA b) : SndE P N C FA (.orr a b) := by
  have pe : ∀ {sc : Scope} {fb : Str → Bool} {X : Cx} {x : Expr}, CtxOk P N C FA sc fb X → ckE P N false sc fb (.orr a b) x = true → PE X x (tE (gx X FA) WF (ev C (.orr a b))) := fun {sc fb X x} ok h => by
    rw [ckE] at h
    unfold ck_orr at h
    split at h <;> first | (cases h; done) | skip
    · simp only [Bool.and_eq_true] at h
      exact tE_of (sE_or (ha.pe ok h.1) (sE_one (hb.pe ok h.2))) fun σ S => by rw [ev] <;> rfl
    · simp only [Bool.and_eq_true] at h
      exact tE_of (sE_or (ha.pe ok h.1) (hb.pe ok h.2)) fun σ S => by rw [ev] <;> rfl
  have pw : ∀ {sc : Scope} {fb : Str → Bool} {X : Cx} {op : BoolOp} {xs : List Expr} {p : Pos}, CtxOk P N C FA sc fb X → ckE P N false sc fb (.orr a b) (.BoolOp op xs p) = true → noIf (.orr a b) = true → PW X (.BoolOp op xs p) (tT (gx X FA) WF (ev C (.orr a b))) := fun {sc fb X op xs p} ok h hn => by
    rw [noIf, Bool.and_eq_true] at hn
    rw [ckE] at h
    unfold ck_orr at h
    split at h <;> first | (cases h; done) | skip
    · rename_i u v p' q
      cases q
      simp only [Bool.and_eq_true] at h
      exact tW_of (sT_or (ha.pt ok h.1 hn.1) (sT_or1 (hb.pt ok h.2 hn.2))) fun σ S => by rw [ev] <;> rfl
    · rename_i u v w r p' q
      cases q
      simp only [Bool.and_eq_true] at h
      exact tW_of (sT_or (ha.pt ok h.1 hn.1) (hb.pw ok h.2 hn.2)) fun σ S => by rw [ev] <;> rfl
  refine ⟨pe, fun {sc fb X x} ok h hn => ?_, pw, fun {sc fb X x tg} ok h _ => sI_any (pe ok (by rw [ckE] at h ⊢; exact h)), fun _ _ h => by cases h⟩
  have h' := h
  rw [ckE] at h'
  unfold ck_orr at h'
  split at h' <;> first | (cases h'; done) | exact (pw ok h hn).pt
end
end Nog

set_option Elab.async false
set_option linter.all false
set_option maxRecDepth 100000
set_option maxHeartbeats 2000000
/-! the comparison is sound: sources, comprehensions, all expressions -/
namespace Nog
open PySem L2 PyProof.Rows
section
variable {P : CkP} {N : List Str} {C : Call} {FA : Nat → Option Addr} {a b c q q2 k v elt : E} {es ifs ifs2 : List E}
theorem tI_of {X : Cx} {tg x : Expr} {e : E} {m : Env → Sto → Rs Pv} (h : PI X tg x (tI X FA WF fun σ S => (m σ S).bind srcM)) (q : ∀ σ S, ev C e σ S = m σ S) : PI X tg x (tI X FA WF fun σ S => (ev C e σ S).bind srcM) := by
  have : ev C e = m := by funext σ S; exact q σ S
  rw [this]; exact h
theorem tR_of {X : Cx} {x : Expr} {e : E} {m : Env → Sto → Rs Pv} (h : PRg X x (tRg (gx X FA) WF m)) (q : ∀ σ S, ev C e σ S = m σ S) : PRg X x (tRg (gx X FA) WF (ev C e)) := by
  have : ev C e = m := by funext σ S; exact q σ S
  rw [this]; exact h
theorem snd_rg1 (ha : SndE P N C FA a) : SndE P N C FA (.rg1 a) := by
  have no : ∀ {sc : Scope} {fb : Str → Bool} {x : Expr}, ckE P N false sc fb (.rg1 a) x = true → False := fun {sc fb x} h => by
    rw [ckE] at h
    unfold ck_rg1 at h
    split at h
    · simp at h
    · cases h
  refine ⟨fun ok h => (no h).elim, fun ok h => (no h).elim, fun ok h => (no h).elim, fun {sc fb X x tg} ok h _ => ?_, fun {sc fb X x} ok h _ => ?_⟩
  · rw [ckE] at h
    unfold ck_rg1 at h
    split at h <;> first | (cases h; done) | skip
    simp only [Bool.and_eq_true, decide_eq_true_eq, true_and] at h
    obtain ⟨⟨⟨rfl, h1⟩, h2⟩, h3⟩ := h
    obtain ⟨g, hm⟩ := ok.bl h1
    exact tI_of (sI_rg1 g hm h2 (ha.pe ok h3)) fun σ S => by rw [ev] <;> rfl
  · rw [ckE] at h
    unfold ck_rg1 at h
    split at h <;> first | (cases h; done) | skip
    simp only [Bool.and_eq_true, decide_eq_true_eq, true_and] at h
    obtain ⟨⟨⟨rfl, h1⟩, h2⟩, h3⟩ := h
    obtain ⟨g, hm⟩ := ok.bl h1
    exact tR_of (sR_1 g hm h2 (ha.pe ok h3)) fun σ S => by rw [ev] <;> rfl
theorem snd_rg2 (ha : SndE P N C FA a) (hb : SndE P N C FA b) : SndE P N C FA (.rg2 a b) := by
  have no : ∀ {sc : Scope} {fb : Str → Bool} {x : Expr}, ckE P N false sc fb (.rg2 a b) x = true → False := fun {sc fb x} h => by
    rw [ckE] at h
    unfold ck_rg2 at h
    split at h
    · simp at h
    · cases h
  refine ⟨fun ok h => (no h).elim, fun ok h => (no h).elim, fun ok h => (no h).elim, fun {sc fb X x tg} ok h _ => ?_, fun {sc fb X x} ok h _ => ?_⟩
  · rw [ckE] at h
    unfold ck_rg2 at h
    split at h <;> first | (cases h; done) | skip
    simp only [Bool.and_eq_true, decide_eq_true_eq, true_and] at h
    obtain ⟨⟨⟨⟨⟨rfl, h1⟩, h2⟩, h3⟩, h4⟩, h5⟩ := h
    obtain ⟨g, hm⟩ := ok.bl h1
    exact tI_of (sI_rg2 g hm h2 h3 (ha.pe ok h4) (hb.pe ok h5)) fun σ S => by rw [ev] <;> rfl
  · rw [ckE] at h
    unfold ck_rg2 at h
    split at h <;> first | (cases h; done) | skip
    simp only [Bool.and_eq_true, decide_eq_true_eq, true_and] at h
    obtain ⟨⟨⟨⟨⟨rfl, h1⟩, h2⟩, h3⟩, h4⟩, h5⟩ := h
    obtain ⟨g, hm⟩ := ok.bl h1
    exact tR_of (sR_2 g hm h2 h3 (ha.pe ok h4) (hb.pe ok h5)) fun σ S => by rw [ev] <;> rfl
theorem snd_enu (ha : SndE P N C FA a) : SndE P N C FA (.enu a) := by
  have no : ∀ {sc : Scope} {fb : Str → Bool} {x : Expr}, ckE P N false sc fb (.enu a) x = true → False := fun {sc fb x} h => by
    rw [ckE] at h
    unfold ck_enu at h
    split at h
    · simp at h
    · cases h
  refine ⟨fun ok h => (no h).elim, fun ok h => (no h).elim, fun ok h => (no h).elim, fun {sc fb X x tg} ok h ht => ?_, fun _ _ h => by cases h⟩
  rw [ckE] at h
  unfold ck_enu at h
  split at h <;> first | (cases h; done) | skip
  simp only [Bool.and_eq_true, decide_eq_true_eq, true_and] at h
  obtain ⟨⟨⟨rfl, h1⟩, h2⟩, h3⟩ := h
  obtain ⟨g, hm⟩ := ok.bl h1
  have ht := ht rfl
  cases tg <;> first | (cases ht; done) | skip
  exact tI_of (sI_en g hm h2 (ha.pe ok h3)) fun σ S => by rw [ev] <;> rfl
/-! ### comprehensions -/
theorem sub_of {is own : List Nat} (h : subB is own = true) : ∀ i ∈ is, i ∈ (owns N own).map (·.2) := fun i hi => by
  unfold subB at h
  rw [List.all_eq_true] at h
  have := h i hi
  rw [decide_eq_true_eq] at this
  unfold owns
  rw [List.map_map]
  exact List.mem_map.mpr ⟨i, this, rfl⟩
theorem owns_ix (own : List Nat) : (owns N own).map (·.2) = own := by
  unfold owns
  rw [List.map_map]
  exact (List.map_congr_left fun _ _ => rfl).trans (List.map_id _)
theorem enu_of {e : E} {x : Expr} (h : (!isEnu e || isTupX x) = true) : isEnu e = true → isTupX x = true := fun z => by
  rw [z] at h
  simpa using h
theorem CtxOk.blkOk {sc scope : Scope} {fb : Str → Bool} {X : Cx} (ok : CtxOk P N C FA sc fb X) {own : List Nat} (h : blkC N sc scope (owns N own) = true) : BlkOk X.N X.env.scope scope (owns N own) := by
  rw [ok.hN, ok.hs]; exact blkOk_by h
theorem snd_lc {own : List Nat} {tg : Tg} (hq : SndE P N C FA q) (hi : SndI P N C FA ifs) (he : SndE P N C FA elt) : SndE P N C FA (.lc own elt tg q ifs) := by
  refine .plain (fun {sc fb X x} ok h => ?_) (fun {sc fb x} h env whole => ?_) (fun {sc fb op xs p} => by rw [ckE]; rfl) (fun {sc fb x} => by rw [ckE, ckE]) rfl
  · rw [ckE] at h
    unfold ck_lc at h
    split at h <;> first | (cases h; done) | skip
    simp only [Bool.and_eq_true] at h
    obtain ⟨⟨⟨⟨⟨⟨⟨h1, h2⟩, h3⟩, h4⟩, h5⟩, h6⟩, h7⟩, h8⟩ := h
    refine tE_of (sE_lc (own := owns N own) ok.calm (by rw [ok.hN]; exact ok.nd) (sub_of h3) (hq.pi ok h6 (enu_of h4)) (ok.blkOk h2) h1 (fun s H D cl fp => ck_tg (ok.blk s H _ D cl fp) h5) (fun s H D cl fp => hi.pts (ok.blk s H _ D cl fp) h7) (fun s H D cl fp => he.pe (ok.blk s H _ D cl fp) h8)) fun σ S => ?_
    rw [owns_ix, ev]
    unfold lcM
    rw [Rs.bind_assoc]
    congr 1
    funext p S1
    unfold srcM
    cases p.items S1 <;> rfl
  · rw [ckE] at h
    unfold ck_lc at h
    split at h
    · rfl
    · cases h
theorem snd_dc {own : List Nat} {tg : Tg} (hq : SndE P N C FA q) (hi : SndI P N C FA ifs) (hk : SndE P N C FA k) (hv : SndE P N C FA v) : SndE P N C FA (.dc own k v tg q ifs) := by
  refine .plain (fun {sc fb X x} ok h => ?_) (fun {sc fb x} h env whole => ?_) (fun {sc fb op xs p} => by rw [ckE]; rfl) (fun {sc fb x} => by rw [ckE, ckE]) rfl
  · rw [ckE] at h
    unfold ck_dc at h
    split at h <;> first | (cases h; done) | skip
    simp only [Bool.and_eq_true] at h
    obtain ⟨⟨⟨⟨⟨⟨⟨⟨h1, h2⟩, h3⟩, h4⟩, h5⟩, h6⟩, h7⟩, h8⟩, h9⟩ := h
    refine tE_of (sE_dc (own := owns N own) ok.roomC ok.calm (by rw [ok.hN]; exact ok.nd) (sub_of h3) (hq.pi ok h6 (enu_of h4)) (ok.blkOk h2) h1 (fun s H D cl fp => ck_tg (ok.blk s H _ D cl fp) h5) (fun s H D cl fp => hi.pts (ok.blk s H _ D cl fp) h7) (fun s H D cl fp => hk.pe (ok.blk s H _ D cl fp) h8) (fun s H D cl fp => hv.pe (ok.blk s H _ D cl fp) h9)) fun σ S => ?_
    rw [owns_ix, ev]
    unfold dcM
    rw [Rs.bind_assoc]
    congr 1
    funext p S1
    unfold srcM
    cases p.items S1 <;> rfl
  · rw [ckE] at h
    unfold ck_dc at h
    split at h
    · rfl
    · cases h
end
end Nog

set_option Elab.async false
set_option linter.all false
set_option maxRecDepth 100000
set_option maxHeartbeats 2000000
/-! the comparison is sound: all expressions -/
namespace Nog
open PySem L2 PyProof.Rows
section
variable {P : CkP} {N : List Str} {C : Call} {FA : Nat → Option Addr} {a b c q q2 k v elt : E} {es ifs ifs2 : List E}
theorem snd_lc2 {own : List Nat} {tg tg2 : Tg} (hq : SndE P N C FA q) (hi : SndI P N C FA ifs) (hq2 : SndE P N C FA q2) (hi2 : SndI P N C FA ifs2) (he : SndE P N C FA elt) : SndE P N C FA (.lc2 own elt tg q ifs tg2 q2 ifs2) := by
  refine .plain (fun {sc fb X x} ok h => ?_) (fun {sc fb x} h env whole => ?_) (fun {sc fb op xs p} => by rw [ckE]; rfl) (fun {sc fb x} => by rw [ckE, ckE]) rfl
  · rw [ckE] at h
    unfold ck_lc2 at h
    split at h <;> first | (cases h; done) | skip
    simp only [Bool.and_eq_true] at h
    obtain ⟨⟨⟨⟨⟨⟨⟨⟨⟨⟨⟨⟨⟨h1, h2⟩, h3⟩, h4⟩, h5⟩, h6⟩, h7⟩, h8⟩, h9⟩, h10⟩, h11⟩, h12⟩, h13⟩, h14⟩ := h
    refine tE_of (sE_lc2 (own := owns N own) ok.calm (by rw [ok.hN]; exact ok.nd) (sub_of h4) (sub_of h5) (hq.pi ok h10 (enu_of h6)) (ok.blkOk h3) h1 h2 (fun s H D cl fp => ck_tg (ok.blk s H _ D cl fp) h8) (fun s H D cl fp => hi.pts (ok.blk s H _ D cl fp) h11)
      (fun s H D cl fp => sI_0 (hq2.pi (ok.blk s H _ D cl fp) h12 (enu_of h7))) (fun s H D cl fp => ck_tg (ok.blk s H _ D cl fp) h9) (fun s H D cl fp => hi2.pts (ok.blk s H _ D cl fp) h13) (fun s H D cl fp => he.pe (ok.blk s H _ D cl fp) h14)) fun σ S => ?_
    rw [owns_ix, ev]
    unfold lcM2
    rw [Rs.bind_assoc]
    congr 1
    funext p S1
    rw [show srcM p S1 = (match p.items S1 with
      | some xs => .ok (xs, p.held (p.lockS S1), p.lock S1) (p.lockS S1)
      | none => .no) from rfl]
    cases p.items S1 with
    | none => rfl
    | some xs =>
      have e : (fun x S => match bindTg tg x (wipe σ own) with
        | some σ1 => (evi C ifs σ1 S).bind fun b S2 => if b then (ev C q2 σ1 S2).bind fun p2 S3 => match p2.lock S3 with
            | some _ => .no
            | none => match p2.items S3 with
              | some zs => lcRun (p2.held S3) (fun z S => match bindTg tg2 z (wipe σ1 tg2.slots) with
                | some σ2 => (evi C ifs2 σ2 S).bind fun b S4 => if b then (ev C elt σ2 S4).bind fun r S5 => (r.toVal S5).bind fun y S6 => .ok (some y) S6 else .ok none S4
                | none => .no) zs S3
              | none => .no
          else .ok [] S2
        | none => .no) = lcF2 own tg (evi C ifs) (fun σ S => noLock ((ev C q2 σ S).bind srcM)) tg2 (evi C ifs2) (ev C elt) σ := by
        funext x S
        unfold lcF2
        cases bindTg tg x (wipe σ own) with
        | none => rfl
        | some σ1 =>
          dsimp only
          congr 1
          funext b S2
          cases b with
          | false => rfl
          | true =>
            rw [if_pos rfl, if_pos rfl]
            have e2 : noLock ((ev C q2 σ1 S2).bind srcM) = (ev C q2 σ1 S2).bind src0M := by
              unfold noLock
              rw [Rs.bind_assoc]
              congr 1
              funext p S
              exact noLock_src p S
            rw [e2, Rs.bind_assoc]
            congr 1
            funext p2 S3
            unfold src0M
            cases p2.lock S3 with
            | some _ => rfl
            | none => cases p2.items S3 <;> rfl
      exact congrArg (fun F => (((lcRun2 (p.held (p.lockS S1)) F xs (p.lockS S1)).unl (p.lock S1)).calm).bind fitM) e
  · rw [ckE] at h
    unfold ck_lc2 at h
    split at h
    · rfl
    · cases h
theorem sndL_nil : SndL P N C FA [] := by
  refine ⟨fun {sc fb X xs} ok h => ?_, fun {sc fb X kws} ok h => ?_⟩
  · rw [ckL.eq_def] at h
    cases xs with
    | nil =>
      refine ⟨?_, by simp, rfl⟩
      have : evs C [] = fun _ S => .ok [] S := by funext σ S; rw [evs]
      rw [this]
      exact sA_nil
    | cons _ _ => cases h
  · cases kws with
    | nil =>
      refine ⟨?_, rfl⟩
      have : evs C [] = fun _ S => .ok [] S := by funext σ S; rw [evs]
      rw [this]
      exact sK_nil
    | cons k r =>
      rw [ckL.eq_def] at h
      cases h
theorem sndL_cons (ha : SndE P N C FA a) (l : SndL P N C FA es) : SndL P N C FA (a :: es) := by
  have he : evs C (a :: es) = consM (ev C a) (evs C es) := by funext σ S; rw [evs]; rfl
  refine ⟨fun {sc fb X xs} ok h => ?_, fun {sc fb X kws} ok h => ?_⟩
  · cases xs with
    | nil => rw [ckL.eq_def] at h; cases h
    | cons x xs =>
      rw [ckL] at h
      simp only [Bool.and_eq_true] at h
      obtain ⟨l1, l2, l3⟩ := l.pa ok h.2
      refine ⟨?_, fun y hy => ?_, by rw [List.length_cons, List.length_cons, l3]⟩
      · rw [he]
        exact sA_cons h.1.1 (ha.pe ok h.1.2) l1
      · rcases List.mem_cons.mp hy with rfl | hy
        · exact h.1.1
        · exact l2 y hy
  · cases kws with
    | nil => rw [List.map_nil, ckL.eq_def] at h; cases h
    | cons k r =>
      obtain ⟨nm, x, kp⟩ := k
      rw [List.map_cons, ckL] at h
      simp only [Bool.and_eq_true] at h
      obtain ⟨l1, l3⟩ := l.pk ok h.2
      refine ⟨?_, by rw [List.map_cons, List.length_cons, List.length_cons, l3]⟩
      rw [he]
      exact sK_cons (ha.pe ok h.1.2) l1
theorem sndI_nil : SndI P N C FA [] := ⟨fun {sc fb X xs} ok h => by
  rw [ckI.eq_def] at h
  cases xs with
  | nil =>
    have : evi C [] = fun _ S => .ok true S := by funext σ S; rw [evi]
    rw [this]
    exact sTs_nil
  | cons _ _ => cases h⟩
theorem sndI_one (ha : SndE P N C FA a) : SndI P N C FA [a] := ⟨fun {sc fb X xs} ok h => by
  rw [ckI.eq_def] at h
  cases xs with
  | nil => cases h
  | cons x xs =>
    cases xs with
    | cons _ _ => cases h
    | nil =>
      simp only [Bool.and_eq_true] at h
      have : evi C [a] = truM (ev C a) := by
        funext σ S
        rw [evi]
        unfold truM
        congr 1
        funext p S1
        cases p.truth S1 with
        | none => rfl
        | some b => cases b <;> rfl
      rw [this]
      exact sTs_one (ha.pt ok h.2 h.1)⟩
theorem sndI_more {e e2 : E} : SndI P N C FA (e :: e2 :: es) := ⟨fun {sc fb X xs} ok h => by
  rw [ckI.eq_def] at h
  cases xs <;> cases h⟩
theorem SndE.none {e : E} (h : ∀ src sc fb x, ckE P N src sc fb e x = false) : SndE P N C FA e :=
  ⟨fun _ q => absurd q (by rw [h]; decide), fun _ q => absurd q (by rw [h]; decide), fun _ q => absurd q (by rw [h]; decide), fun _ q => absurd q (by rw [h]; decide), fun _ q => absurd q (by rw [h]; decide)⟩
mutual
theorem sndE : ∀ e : E, SndE P N C FA e
  | .var i => snd_var
  | .lit d => snd_lit
  | .tup es => snd_tup (sndL es)
  | .lst es => snd_lst (sndL es)
  | .dc0 => snd_dc0
  | .dc1 k v => snd_dc1 (sndE k) (sndE v)
  | .bin o a b => snd_bin (sndE a) (sndE b)
  | .neg a => snd_neg (sndE a)
  | .nt a => snd_nt (sndE a)
  | .cmp o a b => snd_cmp (sndE a) (sndE b)
  | .chn o o' a b c => snd_chn (sndE a) (sndE b) (sndE c)
  | .isn a => snd_isn (sndE a)
  | .nisn a => snd_nisn (sndE a)
  | .an a b => snd_an (sndE a) (sndE b)
  | .orr a b => snd_orr (sndE a) (sndE b)
  | .ite c a b => snd_ite (sndE c) (sndE a) (sndE b)
  | .ix a b => snd_ix (sndE a) (sndE b)
  | .sl a b c => snd_sl (sndE a) (sndE b) (sndE c)
  | .call f es => snd_call (sndL es)
  | .callk f π es => snd_callk (sndL es)
  | .rg1 a => snd_rg1 (sndE a)
  | .rg2 a b => snd_rg2 (sndE a) (sndE b)
  | .rg3 a b c => .none fun src sc fb x => rfl
  | .b0 b => .none fun src sc fb x => rfl
  | .b1 b a => snd_b1 (sndE a)
  | .b2 b a c => snd_b2 (sndE a) (sndE c)
  | .mxd b a d => snd_mxd (sndE a) (sndE d)
  | .isi a t => snd_isi (sndE a)
  | .isi2 a t u => snd_isi2 (sndE a)
  | .lset a => snd_lset (sndE a)
  | .ms m o es => snd_ms (sndE o) (sndL es)
  | .ext o a => snd_ext (sndE o) (sndE a)
  | .fld o f => .none fun src sc fb x => rfl
  | .lc own elt tg q ifs => snd_lc (sndE q) (sndI ifs) (sndE elt)
  | .lc2 own elt tg q ifs tg2 q2 ifs2 => snd_lc2 (sndE q) (sndI ifs) (sndE q2) (sndI ifs2) (sndE elt)
  | .dc own k v tg q ifs => snd_dc (sndE q) (sndI ifs) (sndE k) (sndE v)
  | .sc2 .. => .none fun src sc fb x => rfl
  | .enu a => snd_enu (sndE a)
  | .zp a b => .none fun src sc fb x => rfl
termination_by structural e => e
theorem sndL : ∀ es : List E, SndL P N C FA es
  | [] => sndL_nil
  | a :: es => sndL_cons (sndE a) (sndL es)
termination_by structural es => es
theorem sndI : ∀ es : List E, SndI P N C FA es
  | [] => sndI_nil
  | [a] => sndI_one (sndE a)
  | a :: b :: es => sndI_more
termination_by structural es => es
end
end
end Nog

set_option Elab.async false
set_option linter.all false
set_option maxRecDepth 100000
set_option maxHeartbeats 2000000
/-! the comparison of statements -/
namespace Nog
open PySem L2 PyProof.Rows
/-- whether a comprehension is stored within: name = [..] -/
def swB (sc : Scope) (v : Expr) (t : Str) (pos : Pos) : Bool :=
  match (match v with
    | .ListComp _ _ s _ | .SetComp _ _ s _ | .DictComp _ _ _ s _ => some s
    | _ => none : Option Scope) with
  | none => false
  | some scope => sc.names.lookup t == some .local && pos.line == v.pos.line && !(scope.names.any fun (n, k) => n == t && (k == .local || k == .cell))
def isCompX : Expr → Bool
  | .ListComp .. => true
  | .SetComp .. => true
  | .DictComp .. => true
  | _ => false
def allT : Str → Bool := fun _ => true
def swT (sc : Scope) (v t : Expr) : Bool := match t with
  | .Name y p => swB sc v y p
  | _ => false
def isLcE : E → Bool
  | .lc .. => true
  | .lc2 .. => true
  | .dc .. => true
  | _ => false
def nmLocB (N : List Str) (sc : Scope) (tg : Tg) (t : Expr) : Bool := match tg with
  | .nm i => (match t with
    | .Name y _ => decide (N[i]? = some y) && decide (sc.names.lookup y = some .local)
    | _ => false)
  | _ => false
/-- a tuple of targets and a tuple of values, not swapped in place -/
def offB (sc : Scope) (t : Expr) : Bool := match t with
  | .Name y _ => !(sc.names.lookup y == some .local)
  | _ => false
def tupSw (sc : Scope) (t v : Expr) : Bool := match t, v with
  | .Tuple ts _ _, .Tuple vs _ _ => !(ts.length == 2 || ts.length == 3) || vs.all (foldedForSure 8) || ts.any (offB sc)
  | _, _ => false
def ck_asg (N : List Str) (sc : Scope) (tg : Tg) (e : E) (f1 : Expr → Bool) (st : Stmt) : Bool := match st with
  | .Assign [t] v _ => if swT sc v t then isLcE e && nmLocB N sc tg t && f1 v else tgB N sc allT tg t && isPlainE t && (!(isTupX t && isTupX v) || tupSw sc t v) && f1 v
  | _ => false
def ck_put (f1 f2 f3 : Expr → Bool) (st : Stmt) : Bool := match st with
  | .Assign [.Subscript o i _] v _ => isPlainE i && f1 o && f2 i && f3 v
  | _ => false
def ck_aug (N : List Str) (sc : Scope) (i : Nat) (o : Op) (f1 : Expr → Bool) (st : Stmt) : Bool := match st with
  | .AugAssign (.Name y _) op v _ => decide (N[i]? = some y) && locB sc allT y && (decide (o = .add) || decide (o = .sub)) && decide (op = augX o) && f1 v
  | _ => false
def ck_augp (o : Op) (f1 f2 f3 : Expr → Bool) (st : Stmt) : Bool := match st with
  | .AugAssign (.Subscript u i _) op v _ => (decide (o = .add) || decide (o = .sub)) && decide (op = augX o) && isPlainE i && f1 u && f2 i && f3 v
  | _ => false
def ck_ex (f1 : Expr → Bool) (st : Stmt) : Bool := match st with
  | .Expr v _ => !isCompX v && f1 v
  | _ => false
def ck_ret (f1 : Expr → Bool) (st : Stmt) : Bool := match st with
  | .Return (some v) _ => f1 v
  | _ => false
def ck_retn (st : Stmt) : Bool := match st with
  | .Return none _ => true
  | _ => false
def ck_pas (st : Stmt) : Bool := match st with
  | .Pass _ => true
  | _ => false
def ck_brk (st : Stmt) : Bool := match st with
  | .Break _ => true
  | _ => false
def ck_cnt (st : Stmt) : Bool := match st with
  | .Continue _ => true
  | _ => false
def ck_iff (c : E) (f1 : Expr → Bool) (g1 g2 : List Stmt → Bool) (st : Stmt) : Bool := match st with
  | .If t a b _ => noIf c && f1 t && g1 a && g2 b
  | _ => false
def ck_whl (c : E) (f1 : Expr → Bool) (g1 : List Stmt → Bool) (st : Stmt) : Bool := match st with
  | .While t a [] _ => noIf c && f1 t && g1 a
  | _ => false
def ck_fr (N : List Str) (sc : Scope) (tg : Tg) (q : E) (f1 : Expr → Bool) (g1 : List Stmt → Bool) (st : Stmt) : Bool := match st with
  | .For t it a [] _ => isPlainE it && (!isEnu q || isTupX t) && tgB N sc allT tg t && f1 it && g1 a
  | _ => false
def ck_par (N : List Str) (sc : Scope) (i j : Nat) (f1 f2 : Expr → Bool) (st : Stmt) : Bool := match st with
  | .Assign [.Tuple [.Name x px, .Name y py] kt pt] (.Tuple [a, b] k2 pt2) _ => decide (N[i]? = some x) && decide (N[j]? = some y) && !decide (i = j) && decide (sc.names.lookup x = some .local) && decide (sc.names.lookup y = some .local) && isPlainE a && isPlainE b && f1 a && f2 b && !decide (x = y) && (py.line == px.line) && !([a, b].all (foldedForSure 8)) && !([a, b].all (constantsAlone 8)) && !isCompX (.Tuple [a, b] k2 pt2)
  | _ => false
def ck_thru (g1 : List Stmt → Bool) (st : Stmt) : Bool := match st with
  | .Try body (_ :: _) [] [] _ => g1 body
  | _ => false
def ck_bad (st : Stmt) : Bool := match st with
  | .Raise .. => true
  | _ => false
mutual
def ckS (P : CkP) (N : List Str) (sc : Scope) : St → Stmt → Bool
  | .asg tg e, st => ck_asg N sc tg e (ckE P N false sc allT e) st
  | .put o i e, st => ck_put (ckE P N false sc allT o) (ckE P N false sc allT i) (ckE P N false sc allT e) st
  | .aug i o e, st => ck_aug N sc i o (ckE P N false sc allT e) st
  | .augp a i o e, st => ck_augp o (ckE P N false sc allT a) (ckE P N false sc allT i) (ckE P N false sc allT e) st
  | .ex e, st => ck_ex (ckE P N false sc allT e) st
  | .ret e, st => ck_ret (ckE P N false sc allT e) st
  | .retn, st => ck_retn st
  | .pas, st => ck_pas st
  | .brk, st => ck_brk st
  | .cnt, st => ck_cnt st
  | .iff c a b, st => ck_iff c (ckE P N false sc allT c) (ckSs P N sc a) (ckSs P N sc b) st
  | .whl c a, st => ck_whl c (ckE P N false sc allT c) (ckSs P N sc a) st
  | .par i j a b, st => ck_par N sc i j (ckE P N false sc allT a) (ckE P N false sc allT b) st
  | .thru a, st => ck_thru (ckSs P N sc a) st
  | .bad, st => ck_bad st
  | .fr tg q a, st => ck_fr N sc tg q (ckE P N true sc allT q) (ckSs P N sc a) st
  | _, _ => false
termination_by structural s => s
def ckSs (P : CkP) (N : List Str) (sc : Scope) : List St → List Stmt → Bool
  | [], [] => true
  | s :: ss, t :: ts => ckS P N sc s t && ckSs P N sc ss ts
  | _, _ => false
termination_by structural ss => ss
end
structure TopOk (P : CkP) (N : List Str) (C : Call) (FA : Nat → Option Addr) (sc : Scope) (X : Cx) : Prop extends CtxOk P N C FA sc allT X where
  bk : X.env.blockKind = .function
  own : PassesOwn (model X.prog X.w) X.A X.env X.xe
section
variable {P : CkP} {N : List Str} {C : Call} {FA : Nat → Option Addr} {sc : Scope} {X : Cx}
theorem sw_name (ok : TopOk P N C FA sc X) {v : Expr} {y : Str} {p : Pos} {line : Nat} : swapsWith v (some (.Name y p)) line X.env = pure (swB sc v y p) := by
  have hk : X.env.kindOf y = sc.names.lookup y := by show X.env.scope.names.lookup y = _; rw [ok.hs]
  have hb : (X.env.blockKind == ScopeKind.function) = true := by rw [ok.bk]; rfl
  cases v <;> first | rfl | (unfold swapsWith swB; simp only [hk, hb, Bool.true_and])
theorem sw_sole (ok : TopOk P N C FA sc X) {v t : Expr} {line : Nat} : swapsWithSole [t] v line X.env = pure (swT sc v t) := by
  show swapsWith v (some t) line X.env = _
  cases t <;> first | exact sw_name ok | (cases v <;> rfl)
theorem sw_none {v : Expr} {line : Nat} {env : PySem.Env} (h : isCompX v = false) : swapsWith v none line env = pure false := by
  cases v <;> first | rfl | cases h
theorem sto_none {v t : Expr} {env : PySem.Env} (h : (isTupX t && isTupX v) = false) (hp : ∀ es p, t ≠ .List es p) : swappedStores [t] v env = pure none := by
  cases t with
  | Tuple es k p => cases v <;> first | rfl | cases h
  | List es p => exact absurd rfl (hp es p)
  | _ => rfl
def nmOf (sc : Scope) (line : Nat) (t : Expr) : Option Str := match t with
  | .Name id pos => if sc.names.lookup id == some .local && pos.line == line then some id else none
  | _ => none
theorem off_len {sc : Scope} {line : Nat} {ts : List Expr} (h : ts.any (offB sc) = true) : (ts.filterMap (nmOf sc line)).length ≠ ts.length := by
  have key : ∀ ts : List Expr, (ts.filterMap (nmOf sc line)).length ≤ ts.length ∧ (ts.any (offB sc) = true → (ts.filterMap (nmOf sc line)).length < ts.length) := fun ts => by
    induction ts with
    | nil => exact ⟨Nat.le_refl _, fun h => by cases h⟩
    | cons t ts ih =>
      rw [List.any_cons, Bool.or_eq_true, List.filterMap_cons]
      cases q : nmOf sc line t with
      | none =>
        simp only [List.length_cons]
        exact ⟨by omega, fun _ => by omega⟩
      | some y =>
        simp only [List.length_cons]
        refine ⟨by omega, fun h => ?_⟩
        rcases h with h | h
        · unfold nmOf at q
          unfold offB at h
          split at q
          · dsimp only at h
            rename_i id pos
            by_cases z : (sc.names.lookup id == some .local) = true
            · rw [z] at h; cases h
            · have z2 : (sc.names.lookup id == some .local) = false := by simpa using z
              rw [z2] at q; cases q
          · cases q
        · have := ih.2 h
          omega
  exact Nat.ne_of_lt ((key ts).2 h)
theorem sto_tup (ok : TopOk P N C FA sc X) {ts vs : List Expr} {kt k2 : Nat} {pt pt2 : Pos} (h : (!(ts.length == 2 || ts.length == 3) || vs.all (foldedForSure 8) || ts.any (offB sc)) = true) : swappedStores [.Tuple ts kt pt] (.Tuple vs k2 pt2) X.env = pure none := by
  have hk : ∀ y, X.env.kindOf y = sc.names.lookup y := fun y => by show X.env.scope.names.lookup y = _; rw [ok.hs]
  have hnm : ∀ line, (ts.filterMap fun
      | .Name id pos => if X.env.kindOf id == some .local && pos.line == line then some id else none
      | _ => none) = ts.filterMap (nmOf sc line) := fun line => by
    congr 1
    funext t
    cases t <;> first | rfl | (unfold nmOf; simp only [hk])
  show (do
    if !(ts.length == 2 || ts.length == 3) || vs.length != ts.length || X.env.blockKind != .function then return none
    if vs.any fun | .Starred .. => true | _ => false then return none
    let line := (ts.head?.map (·.pos.line)).getD 0
    let names := ts.filterMap fun
      | .Name id pos => if X.env.kindOf id == some .local && pos.line == line then some id else none
      | _ => none
    if names.length != ts.length || names.eraseDups.length != names.length then return none
    if vs.all (foldedForSure 8) then return none
    if vs.all (constantsAlone 8) then unsupported "assign.tuple-of-constant-expressions:order-of-the-stores"
    return some names : Sem (Option (List Str))) = _
  dsimp only
  rw [hnm]
  by_cases h2 : (!(ts.length == 2 || ts.length == 3)) = true
  · rw [h2]; rfl
  · by_cases h3 : vs.all (foldedForSure 8) = true
    · rw [h3]
      repeat' (first | rfl | split)
    · have h4 : ts.any (offB sc) = true := by
        rw [Bool.or_eq_true, Bool.or_eq_true] at h
        exact h.resolve_left fun z => z.elim h2 h3
      have h5 : ((ts.filterMap (nmOf sc ((ts.head?.map (·.pos.line)).getD 0))).length != ts.length) = true := by
        rw [bne_iff_ne]; exact off_len h4
      rw [h5]
      repeat' (first | rfl | split)
theorem sto_none2 (ok : TopOk P N C FA sc X) {v t : Expr} (h : ((!(isTupX t && isTupX v)) || tupSw sc t v) = true) (hp : ∀ es p, t ≠ .List es p) : swappedStores [t] v X.env = pure none := by
  rw [Bool.or_eq_true] at h
  rcases h with h | h
  · exact sto_none (by cases q : (isTupX t && isTupX v) <;> rw [q] at h <;> first | rfl | cases h) hp
  · unfold tupSw at h
    split at h
    · exact sto_tup ok h
    · cases h
def isSt (e : Expr) : Bool := match e with
  | .Starred .. => true
  | _ => false
theorem plain_st {e : Expr} (h : isPlainE e = true) : isSt e = false := by
  cases e <;> first | rfl | (exact absurd h (by simp [isPlainE]))
theorem sto_some (ok : TopOk P N C FA sc X) {x y : Str} {px py pt pt2 : Pos} {kt k2 : Nat} {a b : Expr} (hx : sc.names.lookup x = some .local) (hy : sc.names.lookup y = some .local) (hxy : x ≠ y) (hl : (py.line == px.line) = true) (ha : isPlainE a = true) (hb : isPlainE b = true)
    (hf : [a, b].all (foldedForSure 8) = false) (hc : [a, b].all (constantsAlone 8) = false) : swappedStores [.Tuple [.Name x px, .Name y py] kt pt] (.Tuple [a, b] k2 pt2) X.env = pure (some [x, y]) := by
  have hk : ∀ y, X.env.kindOf y = sc.names.lookup y := fun y => by show X.env.scope.names.lookup y = _; rw [ok.hs]
  have hbk : (X.env.blockKind != ScopeKind.function) = false := by rw [ok.bk]; rfl
  have hst : ([a, b].any fun | .Starred .. => true | _ => false) = false := by
    have h : ([a, b].any isSt) = false := by simp [plain_st ha, plain_st hb]
    exact h
  have hne : (x == y) = false := by rw [beq_eq_false_iff_ne]; exact hxy
  have hn2 : ([x, y] : List Str).eraseDups = [x, y] := by
    have hyx : (y == x) = false := by rw [beq_eq_false_iff_ne]; exact Ne.symm hxy
    simp [List.eraseDups, List.eraseDupsBy, List.eraseDupsBy.loop, hyx]
  have fm : ([.Name x px, .Name y py] : List Expr).filterMap (fun
    | .Name id pos => if X.env.kindOf id == some .local && pos.line == px.line then some id else none
    | _ => none) = [x, y] := by
    have hl2 : py.line = px.line := by simpa using hl
    simp [List.filterMap, hk, hx, hy, hl2]
  have hd : (([.Name x px, .Name y py] : List Expr).head?.map (·.pos.line)).getD 0 = px.line := rfl
  show (do
    if !(([.Name x px, .Name y py] : List Expr).length == 2 || ([.Name x px, .Name y py] : List Expr).length == 3) || [a, b].length != ([.Name x px, .Name y py] : List Expr).length || X.env.blockKind != .function then return none
    if [a, b].any fun | .Starred .. => true | _ => false then return none
    let line := (([.Name x px, .Name y py] : List Expr).head?.map (·.pos.line)).getD 0
    let names := ([.Name x px, .Name y py] : List Expr).filterMap fun
      | .Name id pos => if X.env.kindOf id == some .local && pos.line == line then some id else none
      | _ => none
    if names.length != ([.Name x px, .Name y py] : List Expr).length || names.eraseDups.length != names.length then return none
    if [a, b].all (foldedForSure 8) then return none
    if [a, b].all (constantsAlone 8) then unsupported "assign.tuple-of-constant-expressions:order-of-the-stores"
    return some names : Sem (Option (List Str))) = _
  rw [hbk, hst, hf, hc]
  dsimp only
  rw [hd]
  rw [fm, hn2]
  rfl
end
end Nog

set_option Elab.async false
set_option linter.all false
set_option maxRecDepth 100000
set_option maxHeartbeats 2000000
/-! the comparison of statements is sound -/
namespace Nog
open PySem L2 PyProof.Rows
section
variable {P : CkP} {N : List Str} {C : Call} {FA : Nat → Option Addr} {sc : Scope} {e o i c q : E} {a b ss : List St} {s : St}
structure SndS (P : CkP) (N : List Str) (C : Call) (FA : Nat → Option Addr) (s : St) : Prop where
  ps : ∀ {sc : Scope} {X : Cx} {st : Stmt}, TopOk P N C FA sc X → ckS P N sc s st = true → PS X st (tS (gx X FA) WF (evS C s))
structure SndSs (P : CkP) (N : List Str) (C : Call) (FA : Nat → Option Addr) (ss : List St) : Prop where
  pss : ∀ {sc : Scope} {X : Cx} {sts : List Stmt}, TopOk P N C FA sc X → ckSs P N sc ss sts = true → PSs X sts (tS (gx X FA) WF (evSs C ss))
theorem tS_of {X : Cx} {x : Stmt} {s : St} {m : Env → Sto → Sr} (h : PS X x (tS (gx X FA) WF m)) (q : ∀ σ S, evS C s σ S = m σ S) : PS X x (tS (gx X FA) WF (evS C s)) := by
  have : evS C s = m := by funext σ S; exact q σ S
  rw [this]; exact h
theorem snds_put : SndS P N C FA (.put o i e) := ⟨fun {sc X st} ok h => by
  rw [ckS] at h
  unfold ck_put at h
  split at h <;> first | (cases h; done) | skip
  simp only [Bool.and_eq_true] at h
  obtain ⟨⟨⟨h1, h2⟩, h3⟩, h4⟩ := h
  exact tS_of (sS_put ok.roomC ((sndE o).pe ok.toCtxOk h2) ((sndE i).pe ok.toCtxOk h3) ((sndE e).pe ok.toCtxOk h4) h1 (by rw [sw_sole ok]; rfl) (sto_none rfl fun _ _ z => by cases z)) fun σ S => by rw [evS] <;> rfl⟩
theorem snds_aug {k : Nat} {op : Op} : SndS P N C FA (.aug k op e) := ⟨fun {sc X st} ok h => by
  rw [ckS] at h
  unfold ck_aug at h
  split at h <;> first | (cases h; done) | skip
  simp only [Bool.and_eq_true, Bool.or_eq_true, decide_eq_true_eq] at h
  obtain ⟨⟨⟨⟨h1, h2⟩, h3⟩, rfl⟩, h4⟩ := h
  obtain ⟨l1, l2⟩ := ok.toCtxOk.loc h2
  exact tS_of (sS_aug h3 (by rw [ok.hN]; exact ok.nd) (by rw [ok.hN]; exact h1) l1 l2 ((sndE e).pe ok.toCtxOk h4)) fun σ S => by rw [evS] <;> rfl⟩
theorem snds_augp {op : Op} : SndS P N C FA (.augp o i op e) := ⟨fun {sc X st} ok h => by
  rw [ckS] at h
  unfold ck_augp at h
  split at h <;> first | (cases h; done) | skip
  simp only [Bool.and_eq_true, Bool.or_eq_true, decide_eq_true_eq] at h
  obtain ⟨⟨⟨⟨⟨h1, rfl⟩, h2⟩, h3⟩, h4⟩, h5⟩ := h
  exact tS_of (sS_augp h1 ok.roomC h2 ((sndE o).pe ok.toCtxOk h3) ((sndE i).pe ok.toCtxOk h4) ((sndE e).pe ok.toCtxOk h5)) fun σ S => by rw [evS] <;> rfl⟩
theorem snds_ex : SndS P N C FA (.ex e) := ⟨fun {sc X st} ok h => by
  rw [ckS] at h
  unfold ck_ex at h
  split at h <;> first | (cases h; done) | skip
  simp only [Bool.and_eq_true, Bool.not_eq_true'] at h
  exact tS_of (sS_expr ((sndE e).pe ok.toCtxOk h.2) (sw_none h.1)) fun σ S => by rw [evS] <;> rfl⟩
theorem snds_ret : SndS P N C FA (.ret e) := ⟨fun {sc X st} ok h => by
  rw [ckS] at h
  unfold ck_ret at h
  split at h <;> first | (cases h; done) | skip
  exact tS_of (sS_ret ((sndE e).pe ok.toCtxOk h)) fun σ S => by rw [evS] <;> rfl⟩
theorem snds_retn : SndS P N C FA .retn := ⟨fun {sc X st} ok h => by
  rw [ckS] at h
  unfold ck_retn at h
  split at h <;> first | (cases h; done) | skip
  exact tS_of sS_retN fun σ S => by rw [evS] <;> rfl⟩
theorem snds_pas : SndS P N C FA .pas := ⟨fun {sc X st} ok h => by
  rw [ckS] at h
  unfold ck_pas at h
  split at h <;> first | (cases h; done) | skip
  exact tS_of sS_pass fun σ S => by rw [evS] <;> rfl⟩
theorem snds_brk : SndS P N C FA .brk := ⟨fun {sc X st} ok h => by
  rw [ckS] at h
  unfold ck_brk at h
  split at h <;> first | (cases h; done) | skip
  exact tS_of sS_break fun σ S => by rw [evS] <;> rfl⟩
theorem snds_cnt : SndS P N C FA .cnt := ⟨fun {sc X st} ok h => by
  rw [ckS] at h
  unfold ck_cnt at h
  split at h <;> first | (cases h; done) | skip
  exact tS_of sS_continue fun σ S => by rw [evS] <;> rfl⟩
theorem snds_iff (ha : SndSs P N C FA a) (hb : SndSs P N C FA b) : SndS P N C FA (.iff c a b) := ⟨fun {sc X st} ok h => by
  rw [ckS] at h
  unfold ck_iff at h
  split at h <;> first | (cases h; done) | skip
  simp only [Bool.and_eq_true] at h
  obtain ⟨⟨⟨h1, h2⟩, h3⟩, h4⟩ := h
  exact tS_of (sS_if ((sndE c).pt ok.toCtxOk h2 h1) (ha.pss ok h3) (hb.pss ok h4)) fun σ S => by rw [evS] <;> rfl⟩
theorem snds_whl (ha : SndSs P N C FA a) : SndS P N C FA (.whl c a) := ⟨fun {sc X st} ok h => by
  rw [ckS] at h
  unfold ck_whl at h
  split at h <;> first | (cases h; done) | skip
  simp only [Bool.and_eq_true] at h
  obtain ⟨⟨h1, h2⟩, h3⟩ := h
  exact tS_of (sS_while ok.own ((sndE c).pt ok.toCtxOk h2 h1) (ha.pss ok h3)) fun σ S => by rw [evS] <;> rfl⟩
theorem snds_thru (ha : SndSs P N C FA a) : SndS P N C FA (.thru a) := ⟨fun {sc X st} ok h => by
  rw [ckS] at h
  unfold ck_thru at h
  split at h <;> first | (cases h; done) | skip
  have okn : TopOk P N C FA sc X.nox := ⟨⟨ok.hN, ok.nd, ok.hs, ok.calm, ok.hf, ok.room, ok.blt, ok.gc, ok.cs⟩, ok.bk, PassesOwn.never⟩
  exact tS_of (X := X) (ps_try_thru0 (ha.pss okn h)) fun σ S => by rw [evS] <;> rfl⟩
theorem snds_bad : SndS P N C FA .bad := ⟨fun {sc X st} ok h => ⟨fun pins s σ H D I h => by
  obtain ⟨σ', θ, S, _, _, h⟩ := h
  have e : evS C .bad σ' S = .no := by rw [evS]
  rw [e] at h
  exact h.elim⟩⟩
theorem snds_par {i j : Nat} (ha : SndE P N C FA e) (hb : SndE P N C FA o) : SndS P N C FA (.par i j e o) := ⟨fun {sc X st} ok h => by
  rw [ckS] at h
  unfold ck_par at h
  split at h <;> first | (cases h; done) | skip
  rename_i x px y py kt pt a b k2 pt2 spos
  simp only [Bool.and_eq_true, Bool.not_eq_true', decide_eq_true_eq, decide_eq_false_iff_not] at h
  obtain ⟨⟨⟨⟨⟨⟨⟨⟨⟨⟨⟨⟨⟨h1, h2⟩, h3⟩, h4⟩, h5⟩, h6⟩, h7⟩, h8⟩, h9⟩, h10⟩, h11⟩, h12⟩, h13⟩, h14⟩ := h
  have hk : ∀ y, X.env.kindOf y = sc.names.lookup y := fun y => by show X.env.scope.names.lookup y = _; rw [ok.hs]
  refine tS_of (sS_par ok.calm (by rw [ok.hN]; exact ok.nd) (by rw [ok.hN]; exact h1) (by rw [ok.hN]; exact h2) h3 (by rw [ok.hs]; exact h4) (by rw [ok.hs]; exact h5) h6 h7 (ha.pe ok.toCtxOk h8) (hb.pe ok.toCtxOk h9) ?_ ?_) fun σ S => by rw [evS] <;> rfl
  · exact sto_some ok h4 h5 h10 h11 h6 h7 h12 h13
  · rw [sw_sole ok]; rfl⟩
end
end Nog

set_option Elab.async false
set_option linter.all false
set_option maxRecDepth 100000
set_option maxHeartbeats 2000000
/-! the comparison of statements is sound: for, assignments, all -/
namespace Nog
open PySem L2 PyProof.Rows
section
variable {P : CkP} {N : List Str} {C : Call} {FA : Nat → Option Addr} {sc : Scope} {e o i c q : E} {a b ss : List St} {s : St}
theorem snds_fr {tg : Tg} (ha : SndSs P N C FA a) : SndS P N C FA (.fr tg q a) := ⟨fun {sc X st} ok h => by
  rw [ckS] at h
  unfold ck_fr at h
  split at h <;> first | (cases h; done) | skip
  simp only [Bool.and_eq_true] at h
  obtain ⟨⟨⟨⟨h1, h2⟩, h3⟩, h4⟩, h5⟩ := h
  refine tS_of (sS_for unlW_none ok.own ok.calm ((sndE q).pi ok.toCtxOk h4 (enu_of h2)) (ck_tg ok.toCtxOk h3) (ha.pss ok h5) h1) fun σ S => ?_
  rw [evS]
  unfold forM
  dsimp only
  cases ev C q σ S with
  | no => rfl
  | ex x S1 => rfl
  | ok p S1 =>
    show _ = Rs.st (srcM p S1) σ _
    unfold srcM
    show (match p.items S1 with | some xs => _ | none => _) = _
    cases p.items S1 <;> rfl⟩
theorem lc_eq {own : List Nat} {elt : E} {tg : Tg} {ifs : List E} (σ : Env) (S : Sto) : ev C (.lc own elt tg q ifs) σ S = lcM own (fun σ S => (ev C q σ S).bind srcM) tg (evi C ifs) (ev C elt) σ S := by
  rw [ev]
  unfold lcM
  rw [Rs.bind_assoc]
  congr 1
  funext p S1
  unfold srcM
  cases p.items S1 <;> rfl
theorem dc_eq {own : List Nat} {k v : E} {tg : Tg} {ifs : List E} (σ : Env) (S : Sto) : ev C (.dc own k v tg q ifs) σ S = dcM own (fun σ S => (ev C q σ S).bind srcM) tg (evi C ifs) (ev C k) (ev C v) σ S := by
  rw [ev]
  unfold dcM
  rw [Rs.bind_assoc]
  congr 1
  funext p S1
  unfold srcM
  cases p.items S1 <;> rfl
theorem lc2_eq {own : List Nat} {elt q2 : E} {tg tg2 : Tg} {ifs ifs2 : List E} (σ : Env) (S : Sto) : ev C (.lc2 own elt tg q ifs tg2 q2 ifs2) σ S = lcM2 own (fun σ S => (ev C q σ S).bind srcM) tg (evi C ifs) (fun σ S => noLock ((ev C q2 σ S).bind srcM)) tg2 (evi C ifs2) (ev C elt) σ S := by
  rw [ev]
  unfold lcM2
  rw [Rs.bind_assoc]
  congr 1
  funext p S1
  rw [show srcM p S1 = (match p.items S1 with
    | some xs => .ok (xs, p.held (p.lockS S1), p.lock S1) (p.lockS S1)
    | none => .no) from rfl]
  cases p.items S1 with
  | none => rfl
  | some xs =>
    have e : (fun x S => match bindTg tg x (wipe σ own) with
      | some σ1 => (evi C ifs σ1 S).bind fun b S2 => if b then (ev C q2 σ1 S2).bind fun p2 S3 => match p2.lock S3 with
          | some _ => .no
          | none => match p2.items S3 with
            | some zs => lcRun (p2.held S3) (fun z S => match bindTg tg2 z (wipe σ1 tg2.slots) with
              | some σ2 => (evi C ifs2 σ2 S).bind fun b S4 => if b then (ev C elt σ2 S4).bind fun r S5 => (r.toVal S5).bind fun y S6 => .ok (some y) S6 else .ok none S4
              | none => .no) zs S3
            | none => .no
        else .ok [] S2
      | none => .no) = lcF2 own tg (evi C ifs) (fun σ S => noLock ((ev C q2 σ S).bind srcM)) tg2 (evi C ifs2) (ev C elt) σ := by
      funext x S
      unfold lcF2
      cases bindTg tg x (wipe σ own) with
      | none => rfl
      | some σ1 =>
        dsimp only
        congr 1
        funext b S2
        cases b with
        | false => rfl
        | true =>
          rw [if_pos rfl, if_pos rfl]
          have e2 : noLock ((ev C q2 σ1 S2).bind srcM) = (ev C q2 σ1 S2).bind src0M := by
            unfold noLock
            rw [Rs.bind_assoc]
            congr 1
            funext p S
            exact noLock_src p S
          rw [e2, Rs.bind_assoc]
          congr 1
          funext p2 S3
          unfold src0M
          cases p2.lock S3 with
          | some _ => rfl
          | none => cases p2.items S3 <;> rfl
    exact congrArg (fun F => (((lcRun2 (p.held (p.lockS S1)) F xs (p.lockS S1)).unl (p.lock S1)).calm).bind fitM) e
theorem snds_asg {tg : Tg} : SndS P N C FA (.asg tg e) := ⟨fun {sc X st} ok h => by
  rw [ckS] at h
  unfold ck_asg at h
  split at h <;> first | (cases h; done) | skip
  rename_i t v pos
  split at h
  · rename_i hsw
    simp only [Bool.and_eq_true] at h
    obtain ⟨⟨h1, h2⟩, h3⟩ := h
    unfold nmLocB at h2
    split at h2 <;> first | (cases h2; done) | skip
    rename_i k
    split at h2 <;> first | (cases h2; done) | skip
    rename_i y p
    simp only [Bool.and_eq_true, decide_eq_true_eq] at h2
    have hN : X.N.Nodup := by rw [ok.hN]; exact ok.nd
    have hy : X.N[k]? = some y := by rw [ok.hN]; exact h2.1
    have hl : X.env.scope.names.lookup y = some .local := by rw [ok.hs]; exact h2.2
    have hs : ∀ line, swapsWith v (some (.Name y p)) line X.env = pure true := fun line => by
      rw [sw_name ok]
      congr 1
    have okc := ok.toCtxOk
    cases e <;> first | (cases h1; done) | skip
    · rename_i own elt tg' q ifs
      rw [ckE] at h3
      unfold ck_lc at h3
      split at h3 <;> first | (cases h3; done) | skip
      simp only [Bool.and_eq_true] at h3
      obtain ⟨⟨⟨⟨⟨⟨⟨g1, g2⟩, g3⟩, g4⟩, g5⟩, g6⟩, g7⟩, g8⟩ := h3
      refine tS_of (sS_setLc (own := owns N own) (W := WF) (FA := FA) ok.calm hN hy hl (hs _) (sub_of g3) ((sndE q).pi okc g6 (enu_of g4)) (okc.blkOk g2) g1 (fun s H D cl fp => ck_tg (okc.blk s H _ D cl fp) g5) (fun s H D cl fp => (sndI ifs).pts (okc.blk s H _ D cl fp) g7) (fun s H D cl fp => (sndE elt).pe (okc.blk s H _ D cl fp) g8)) fun σ S => ?_
      rw [evS, owns_ix, lc_eq]
      rfl
    · rename_i own elt tg' q ifs tg2 q2 ifs2
      rw [ckE] at h3
      unfold ck_lc2 at h3
      split at h3 <;> first | (cases h3; done) | skip
      simp only [Bool.and_eq_true] at h3
      obtain ⟨⟨⟨⟨⟨⟨⟨⟨⟨⟨⟨⟨⟨g1, g2⟩, g3⟩, g4⟩, g5⟩, g6⟩, g7⟩, g8⟩, g9⟩, g10⟩, g11⟩, g12⟩, g13⟩, g14⟩ := h3
      refine tS_of (sS_setLc2 (own := owns N own) (W := WF) (FA := FA) ok.calm hN hy hl (hs _) (sub_of g4) (sub_of g5) ((sndE q).pi okc g10 (enu_of g6)) (okc.blkOk g3) g1 g2 (fun s H D cl fp => ck_tg (okc.blk s H _ D cl fp) g8) (fun s H D cl fp => (sndI ifs).pts (okc.blk s H _ D cl fp) g11)
        (fun s H D cl fp => sI_0 ((sndE q2).pi (okc.blk s H _ D cl fp) g12 (enu_of g7))) (fun s H D cl fp => ck_tg (okc.blk s H _ D cl fp) g9) (fun s H D cl fp => (sndI ifs2).pts (okc.blk s H _ D cl fp) g13) (fun s H D cl fp => (sndE elt).pe (okc.blk s H _ D cl fp) g14)) fun σ S => ?_
      rw [evS, owns_ix, lc2_eq]
      rfl
    · rename_i own k' v' tg' q ifs
      rw [ckE] at h3
      unfold ck_dc at h3
      split at h3 <;> first | (cases h3; done) | skip
      simp only [Bool.and_eq_true] at h3
      obtain ⟨⟨⟨⟨⟨⟨⟨⟨g1, g2⟩, g3⟩, g4⟩, g5⟩, g6⟩, g7⟩, g8⟩, g9⟩ := h3
      refine tS_of (sS_setDx (own := owns N own) (W := WF) (FA := FA) ok.roomC ok.calm hN hy hl (hs _) (sub_of g3) ((sndE q).pi okc g6 (enu_of g4)) (okc.blkOk g2) g1 (fun s H D cl fp => ck_tg (okc.blk s H _ D cl fp) g5) (fun s H D cl fp => (sndI ifs).pts (okc.blk s H _ D cl fp) g7) (fun s H D cl fp => (sndE k').pe (okc.blk s H _ D cl fp) g8) (fun s H D cl fp => (sndE v').pe (okc.blk s H _ D cl fp) g9)) fun σ S => ?_
      rw [evS, owns_ix, dc_eq]
      rfl
  · simp only [Bool.and_eq_true] at h
    obtain ⟨⟨⟨h1, h2⟩, h3⟩, h4⟩ := h
    rename_i hsw
    have hsw : swT sc v t = false := by simpa using hsw
    refine tS_of (sS_asg ((sndE e).pe ok.toCtxOk h4) (ck_tg ok.toCtxOk h1) (by rw [sw_sole ok, hsw]) (sto_none2 ok h3 fun es p z => ?_) h2) fun σ S => by rw [evS] <;> rfl
    subst z
    unfold tgB nmB at h1
    split at h1 <;> cases h1⟩
theorem SndS.none {s : St} (h : ∀ sc st, ckS P N sc s st = false) : SndS P N C FA s := ⟨fun _ q => absurd q (by rw [h]; decide)⟩
theorem sndSs_nil : SndSs P N C FA [] := ⟨fun {sc X sts} ok h => by
  cases sts with
  | nil =>
    have : evSs C [] = fun σ S => .nx σ S := by funext σ S; rw [evSs]
    rw [this]
    exact sSs_nil
  | cons _ _ => rw [ckSs.eq_def] at h; cases h⟩
theorem sndSs_cons (hs : SndS P N C FA s) (hss : SndSs P N C FA ss) : SndSs P N C FA (s :: ss) := ⟨fun {sc X sts} ok h => by
  cases sts with
  | nil => rw [ckSs.eq_def] at h; cases h
  | cons t ts =>
    rw [ckSs, Bool.and_eq_true] at h
    have : evSs C (s :: ss) = seqM (evS C s) (evSs C ss) := by
      funext σ S
      rw [evSs]
      unfold seqM
      cases evS C s σ S <;> rfl
    rw [this]
    exact sSs_cons (hs.ps ok h.1) (hss.pss ok h.2)⟩
mutual
theorem sndS : ∀ s : St, SndS P N C FA s
  | .asg tg e => snds_asg
  | .par i j a b => snds_par (sndE a) (sndE b)
  | .put o i e => snds_put
  | .fput .. => .none fun _ _ => rfl
  | .aug i o e => snds_aug
  | .augp a i o e => snds_augp
  | .ex e => snds_ex
  | .ret e => snds_ret
  | .retn => snds_retn
  | .pas => snds_pas
  | .brk => snds_brk
  | .cnt => snds_cnt
  | .iff c a b => snds_iff (sndSs a) (sndSs b)
  | .whl c a => snds_whl (sndSs a)
  | .fr tg q a => snds_fr (sndSs a)
  | .thru a => snds_thru (sndSs a)
  | .bad => snds_bad
  | .rais .. => .none fun _ _ => rfl
  | .tr .. => .none fun _ _ => rfl
termination_by structural s => s
theorem sndSs : ∀ ss : List St, SndSs P N C FA ss
  | [] => sndSs_nil
  | s :: ss => sndSs_cons (sndS s) (sndSs ss)
termination_by structural ss => ss
end
end
end Nog

set_option Elab.async false
set_option linter.all false
set_option maxRecDepth 100000
set_option maxHeartbeats 2000000
/-! the table of the own functions -/
namespace Nog
open PySem L2 PyProof.Rows
/-- a def: its name, its text, its names (the parameters first), how many parameters, the own body -/
structure FDef where
  name : Str
  st : Stmt
  N : List Str
  np : Nat
  mode : Mode
  body : List St
def FDef.ps (f : FDef) : List Str := f.N.take f.np
def FDef.fn (f : FDef) : Fn := ⟨f.np, f.N.length, [], f.mode, f.body⟩
def tabF : List FDef → Nat → List (Str × (Nat × Nat))
  | [], _ => []
  | f :: r, i => (f.name, (i, f.np)) :: tabF r (i + 1)
theorem tabF_at : ∀ {fs : List FDef} {i : Nat} {x : Str} {k n : Nat}, (tabF fs i).lookup x = some (k, n) → ∃ j f, k = i + j ∧ fs[j]? = some f ∧ f.name = x ∧ f.np = n
  | [], _, _, _, _, h => by cases h
  | f :: r, i, x, k, n, h => by
    rw [tabF, List.lookup_cons] at h
    split at h
    · rename_i e
      cases h
      exact ⟨0, f, rfl, rfl, (by simpa using e : x = f.name).symm, rfl⟩
    · obtain ⟨j, g, h1, h2, h3⟩ := tabF_at h
      exact ⟨j + 1, g, by omega, h2, h3⟩
def ckF (P : CkP) (f : FDef) : Bool := ckSs P f.N (C8.fnScope f.st) f.body (C8.fnBody f.st) && C8.scC f.N f.ps (C8.fnScope f.st) && decide (f.np ≤ f.N.length)
section
variable {P : Program} {w : World} {K : PySem.W.Frag} {mg : Str → Option Value} {base : Heap} {FA : Nat → Option Addr} {fs : List FDef} {gc : List (Str × Bi)} {cs : List (Str × Int)} {kt : List ((Str × List Str) × (Nat × List Nat))}
theorem start_rep {G : Gx} {θ : List Addr} {H : Hp} {ds : List Nog.D} {vs : List V} {N : List Str} (r : RepL G θ H ds vs) : RepE G θ H (ds.map some ++ List.replicate (N.length - ds.length) none) (L2.start N vs) := by
  have hl := r.length
  refine ⟨by unfold L2.start; simp [hl], fun i d h => ?_⟩
  by_cases hi : i < ds.length
  · rw [List.getElem?_append_left (by simpa using hi), List.getElem?_map] at h
    cases e : ds[i]? with
    | none => rw [e] at h; cases h
    | some d' =>
      rw [e] at h
      cases h
      obtain ⟨v, h1, h2⟩ := r.get e
      refine ⟨v, ?_, h2⟩
      unfold L2.start
      rw [List.getElem?_append_left (by simpa [hl] using hi), List.getElem?_map, h1]
      rfl
  · rw [List.getElem?_append_right (by simpa using hi), List.getElem?_replicate] at h
    split at h <;> cases h
theorem fin_read {G : Gx} {θ : List Addr} {H : Hp} {r : Sr} {Q : VK} (h : PostR G WF θ H (fun θ' H' d v => Rep G θ' H' d v) r.fin Q) : PostS G WF θ H r { nx := fun _ H' => Q .non H', rt := Q } := by
  cases r with
  | nx σ S => exact fun θ' H' τ e m _ => h θ' H' .non e m .non
  | rt d S => exact h
  | bk σ S => exact h.elim
  | ct σ S => exact h.elim
  | ex x σ S => exact h
  | no => exact h
mutual
theorem Rep.plain {G : Gx} {θ θ1 : List Addr} {H : Hp} : ∀ {d : Nog.D} {v : V}, Nog.D.plain d = true → Rep G θ H d v → Rep G θ1 H d v
  | .non, _, _, h => by rw [Rep] at h ⊢; exact h
  | .bl _, _, _, h => by rw [Rep] at h ⊢; exact h
  | .int _, _, _, h => by rw [Rep] at h ⊢; exact h
  | .str _, _, _, h => by rw [Rep] at h ⊢; exact h
  | .tup ds, _, p, h => by
    rw [Rep] at h ⊢
    obtain ⟨a, vs, h1, h2, h3⟩ := h
    exact ⟨a, vs, h1, h2, RepL.plain (by simpa [Nog.D.plain] using p) h3⟩
  | .ref l, _, p, _ => by simp [Nog.D.plain] at p
  | .fn _, _, p, _ => by simp [Nog.D.plain] at p
  | .rol _, _, p, _ => by simp [Nog.D.plain] at p
theorem RepL.plain {G : Gx} {θ θ1 : List Addr} {H : Hp} : ∀ {ds : List Nog.D} {vs : List V}, Nog.D.plainL ds = true → RepL G θ H ds vs → RepL G θ1 H ds vs
  | [], _, _, h => by rw [RepL] at h ⊢; exact h
  | d :: ds, _, p, h => by
    simp only [Nog.D.plainL, Bool.and_eq_true] at p
    rw [RepL] at h ⊢
    obtain ⟨v, r, h1, h2, h3⟩ := h
    exact ⟨v, r, h1, Rep.plain p.1 h2, RepL.plain p.2 h3⟩
end
mutual
theorem Rep.shift {G : Gx} {θ θ1 : List Addr} {H : Hp} {k : Nat} (hk : θ.length = k) : ∀ {d : Nog.D} {v : V}, Rep G θ1 H d v → Rep G (θ ++ θ1) H (Nog.D.shift k d) v
  | .non, _, h => by rw [Nog.D.shift]; · rw [Rep] at h ⊢; exact h
                     all_goals (intros; contradiction)
  | .bl _, _, h => by rw [Nog.D.shift]; · rw [Rep] at h ⊢; exact h
                      all_goals (intros; contradiction)
  | .int _, _, h => by rw [Nog.D.shift]; · rw [Rep] at h ⊢; exact h
                       all_goals (intros; contradiction)
  | .str _, _, h => by rw [Nog.D.shift]; · rw [Rep] at h ⊢; exact h
                       all_goals (intros; contradiction)
  | .tup ds, _, h => by
    rw [Nog.D.shift]
    rw [Rep] at h ⊢
    obtain ⟨a, vs, h1, h2, h3⟩ := h
    exact ⟨a, vs, h1, h2, RepL.shift hk h3⟩
  | .ref l, _, h => by
    rw [Nog.D.shift]
    rw [Rep] at h ⊢
    obtain ⟨a, h1, h2⟩ := h
    exact ⟨a, by rw [List.getElem?_append_right (by omega)]; rw [hk, Nat.add_sub_cancel]; exact h1, h2⟩
  | .fn _, _, h => by rw [Nog.D.shift]; · rw [Rep] at h ⊢; exact h
                      all_goals (intros; contradiction)
  | .rol ds, _, h => by
    rw [Nog.D.shift]
    · rw [Rep] at h ⊢
      obtain ⟨a, vs, h1, h2, h3, h4⟩ := h
      exact ⟨a, vs, h1, h2, h3, RepL.plain h3 h4⟩
    all_goals (intros; contradiction)
theorem RepL.shift {G : Gx} {θ θ1 : List Addr} {H : Hp} {k : Nat} (hk : θ.length = k) : ∀ {ds : List Nog.D} {vs : List V}, RepL G θ1 H ds vs → RepL G (θ ++ θ1) H (Nog.D.shiftL k ds) vs
  | [], _, h => by rw [Nog.D.shiftL]; rw [RepL] at h ⊢; exact h
  | d :: ds, _, h => by
    rw [Nog.D.shiftL]
    rw [RepL] at h ⊢
    obtain ⟨v, r, h1, h2, h3⟩ := h
    exact ⟨v, r, h1, Rep.shift hk h2, RepL.shift hk h3⟩
end
mutual
/-- what stands over θ and over the longer θ1 stands over θ in the later heap -/
theorem Rep.low0 {G : Gx} {θ θ1 : List Addr} {H H1 : Hp} {u : V} (pre : ∀ (l : Nat) (a : Addr), θ[l]? = some a → θ1[l]? = some a) : ∀ {d : Nog.D} {v : V}, Rep G θ H d u → Rep G θ1 H1 d v → Rep G θ H1 d v
  | .non, _, _, h => by rw [Rep] at h ⊢; exact h
  | .bl _, _, _, h => by rw [Rep] at h ⊢; exact h
  | .int _, _, _, h => by rw [Rep] at h ⊢; exact h
  | .str _, _, _, h => by rw [Rep] at h ⊢; exact h
  | .tup ds, _, h0, h => by
    rw [Rep] at h h0 ⊢
    obtain ⟨a, vs, h1, h2, h3⟩ := h
    obtain ⟨_, us, _, _, g3⟩ := h0
    exact ⟨a, vs, h1, h2, RepL.low0 pre g3 h3⟩
  | .ref l, _, h0, h => by
    rw [Rep] at h h0 ⊢
    obtain ⟨a, h1, h2⟩ := h
    obtain ⟨b, g1, _⟩ := h0
    have q := pre l b g1
    rw [h1] at q
    cases q
    exact ⟨a, g1, h2⟩
  | .fn _, _, _, h => by rw [Rep] at h ⊢; exact h
  | .rol ds, _, _, h => by
    rw [Rep] at h ⊢
    obtain ⟨a, vs, h1, h2, h3, h4⟩ := h
    exact ⟨a, vs, h1, h2, h3, RepL.plain h3 h4⟩
theorem RepL.low0 {G : Gx} {θ θ1 : List Addr} {H H1 : Hp} {us : List V} (pre : ∀ (l : Nat) (a : Addr), θ[l]? = some a → θ1[l]? = some a) : ∀ {ds : List Nog.D} {vs : List V}, RepL G θ H ds us → RepL G θ1 H1 ds vs → RepL G θ H1 ds vs
  | [], _, _, h => by rw [RepL] at h ⊢; exact h
  | d :: ds, _, h0, h => by
    rw [RepL] at h h0 ⊢
    obtain ⟨v, r, h1, h2, h3⟩ := h
    obtain ⟨v0, r0, _, g2, g3⟩ := h0
    exact ⟨v, r, h1, Rep.low0 pre g2 h2, RepL.low0 pre g3 h3⟩
end
theorem KtR.low0 {G : Gx} {θ θ1 : List Addr} {H H1 : Hp} (pre : ∀ (l : Nat) (a : Addr), θ[l]? = some a → θ1[l]? = some a) : ∀ {kvs : List (Nog.D × Nog.D)} {us vs : List KE3}, KtR G θ H kvs us → KtR G θ1 H1 kvs vs → KtR G θ H1 kvs vs
  | _, _, _, .nil, .nil => .nil
  | _, _, _, .cons _ a b r, .cons h0 a' b' r' => .cons h0 (a.low0 pre a') (b.low0 pre b') (r.low0 pre r')
theorem ObR.low0 {G : Gx} {θ θ1 : List Addr} {H H1 : Hp} {a b : Addr} {o : O} (pre : ∀ (l : Nat) (a : Addr), θ[l]? = some a → θ1[l]? = some a) (h0 : ObR G θ H b o) (h : ObR G θ1 H1 a o) : ObR G θ H1 a o := by
  cases o with
  | lst ds =>
    obtain ⟨us, _, g⟩ := h0
    obtain ⟨vs, h1, h2⟩ := h
    exact ⟨vs, h1, g.low0 pre h2⟩
  | dct lk kvs =>
    obtain ⟨_, us, _, g⟩ := h0
    obtain ⟨hn, es, h1, h2⟩ := h
    exact ⟨hn, es, h1, g.low0 pre h2⟩
  | set _ => exact h.elim
  | ins _ _ => exact h.elim
theorem Ext.drop {G : Gx} {θ θ1 : List Addr} {H H1 : Hp} (e : Ext G θ H θ1 H1) : Ext G θ H θ H1 := ⟨⟨fun _ _ h => h, e.tp, e.fz⟩, e.fr, fun _ h => .inl h, e.up, e.fx⟩
theorem Sim.low {G : Gx} {θ θ1 : List Addr} {H H1 : Hp} {S S1 : Sto} (m : Sim G θ S H) (e : Ext G θ H θ1 H1) (m1 : Sim G θ1 S1 H1) (ht : S1.take S.length = S) : Sim G θ S H1 :=
  ⟨m.len, m.nd, fun l a o h1 h2 => (m.ob l a o h1 h2).low0 e.pre (m1.ob l a o (e.pre l a h1) (by
    rw [← ht, List.getElem?_take] at h2
    split at h2
    · exact h2
    · cases h2))⟩
theorem Sim.nil {G : Gx} {H : Hp} : Sim G [] [] H := ⟨rfl, List.nodup_nil, fun l a o h => by cases h⟩
mutual
theorem Key.shift {k : Nat} : ∀ {d : Nog.D}, Nog.D.isKey d = true → Nog.D.shift k d = d
  | .non, _ => by rw [Nog.D.shift]; all_goals (intros; contradiction)
  | .bl _, h => by simp [Nog.D.isKey] at h
  | .int _, _ => by rw [Nog.D.shift]; all_goals (intros; contradiction)
  | .str _, _ => by rw [Nog.D.shift]; all_goals (intros; contradiction)
  | .tup ds, h => by rw [Nog.D.shift, KeyL.shift (by simpa [Nog.D.isKey] using h)]
  | .ref _, h => by simp [Nog.D.isKey] at h
  | .fn _, h => by simp [Nog.D.isKey] at h
  | .rol _, h => by simp [Nog.D.isKey] at h
theorem KeyL.shift {k : Nat} : ∀ {ds : List Nog.D}, Nog.D.isKeyL ds = true → Nog.D.shiftL k ds = ds
  | [], _ => by rw [Nog.D.shiftL]
  | d :: ds, h => by
    simp only [Nog.D.isKeyL, Bool.and_eq_true] at h
    rw [Nog.D.shiftL, Key.shift h.1, KeyL.shift h.2]
end
theorem KtR.shift {G : Gx} {θ θ1 : List Addr} {H : Hp} {k : Nat} (hk : θ.length = k) : ∀ {kvs : List (Nog.D × Nog.D)} {es : List KE3}, KtR G θ1 H kvs es → KtR G (θ ++ θ1) H (kvs.map fun p => (Nog.D.shift k p.1, Nog.D.shift k p.2)) es
  | _, _, .nil => .nil
  | _, _, .cons (ks := ks) h0 a b r => by
    have e : Nog.D.shift k (.tup ks) = .tup ks := Key.shift (by unfold okKey at h0; simp only [Bool.and_eq_true] at h0; exact h0.1.2)
    rw [List.map_cons, e]
    exact .cons h0 (by have q := a.shift hk; rw [e] at q; exact q) (b.shift hk) (KtR.shift hk r)
theorem KtR.shk {G : Gx} {θ : List Addr} {H : Hp} {k : Nat} : ∀ {kvs : List (Nog.D × Nog.D)} {es : List KE3}, KtR G θ H kvs es → (kvs.map fun p => (Nog.D.shift k p.1, Nog.D.shift k p.2)).map (·.1) = kvs.map (·.1)
  | _, _, .nil => rfl
  | _, _, .cons (ks := ks) h0 _ _ r => by
    have e : Nog.D.shift k (.tup ks) = .tup ks := Key.shift (by unfold okKey at h0; simp only [Bool.and_eq_true] at h0; exact h0.1.2)
    rw [List.map_cons, List.map_cons, List.map_cons, KtR.shk r, e]
theorem ObR.shift {G : Gx} {θ θ1 : List Addr} {H : Hp} {k : Nat} {a : Addr} {o : O} (hk : θ.length = k) (h : ObR G θ1 H a o) : ObR G (θ ++ θ1) H a (O.shift k o) := by
  cases o with
  | lst ds =>
    obtain ⟨vs, h1, h2⟩ := h
    exact ⟨vs, h1, h2.shift hk⟩
  | dct lk kvs =>
    obtain ⟨hn, es, h1, h2⟩ := h
    exact ⟨by rw [h2.shk (k := k)]; exact hn, es, h1, h2.shift hk⟩
  | set _ => exact h.elim
  | ins _ _ => exact h.elim
/-- a run of its own, over nothing, joined to what was there -/
theorem own_join {G : Gx} {θ θ1 : List Addr} {H H1 : Hp} {S S1 : Sto} (m : Sim G θ S H) (e : Ext G [] H θ1 H1) (m1 : Sim G θ1 S1 H1) : Ext G θ H (θ ++ θ1) H1 ∧ Sim G (θ ++ θ1) (S ++ S1.map (O.shift S.length)) H1 := by
  have st : ∀ b o, H b = some o → H1 b = some o := fun b o h => e.fr b o h (by simp)
  have e1 : Ext G θ H θ H1 := ⟨⟨fun _ _ h => h, e.tp, e.fz⟩, fun b o h _ => st b o h, fun _ h => .inl h, e.up, e.fx⟩
  have m2 : Sim G θ S H1 := m.ext e1 fun a _ o h => st a o h
  have dj : ∀ b ∈ θ1, H b = none := fun b h => (e.nw b h).elim (fun q => absurd q (by simp)) id
  refine ⟨⟨⟨fun l b h => by rw [List.getElem?_append_left (List.getElem?_eq_some_iff.mp h).1]; exact h, e.tp, e.fz⟩, fun b o h _ => st b o h, fun b h => ?_, e.up, e.fx⟩, ?_, ?_, fun l b o h1 h2 => ?_⟩
  · rcases List.mem_append.mp h with h | h
    · exact .inl h
    · exact .inr (dj b h)
  · rw [List.length_append, List.length_append, List.length_map, m.len, m1.len]
  · rw [List.nodup_append]
    refine ⟨m.nd, m1.nd, fun x hx y hy q => ?_⟩
    subst q
    obtain ⟨u, hu, _⟩ := m.there hx
    rw [dj x hy] at hu
    cases hu
  · by_cases hl : l < θ.length
    · rw [List.getElem?_append_left hl] at h1
      rw [List.getElem?_append_left (by rw [← m.len]; exact hl)] at h2
      cases o with
      | lst ds =>
        obtain ⟨vs, g1, g2⟩ := m2.ob l b _ h1 h2
        exact ⟨vs, g1, g2.ext0 ⟨fun l b h => by rw [List.getElem?_append_left (List.getElem?_eq_some_iff.mp h).1]; exact h, fun _ _ h => h, fun _ _ h => h⟩⟩
      | dct lk kvs =>
        obtain ⟨hn, es, g1, g2⟩ := m2.ob l b _ h1 h2
        exact ⟨hn, es, g1, g2.ext0 ⟨fun l b h => by rw [List.getElem?_append_left (List.getElem?_eq_some_iff.mp h).1]; exact h, fun _ _ h => h, fun _ _ h => h⟩⟩
      | set _ => exact (m2.ob l b _ h1 h2).elim
      | ins _ _ => exact (m2.ob l b _ h1 h2).elim
    · rw [List.getElem?_append_right (by omega)] at h1
      rw [List.getElem?_append_right (by rw [← m.len]; omega), List.getElem?_map, ← m.len] at h2
      cases q : S1[l - θ.length]? with
      | none => rw [q] at h2; cases h2
      | some o' =>
        rw [q] at h2
        cases h2
        exact (m1.ob _ b o' h1 q).shift rfl
/-- the ways of a call are sound -/
theorem mode_ok {G : Gx} {θ : List Addr} {H : Hp} {S : Sto} {C : Call} {f : Fn} {ds : List Nog.D} {vs : List V} {Q : VK} (r : RepL G θ H ds vs) (m : Sim G θ S H)
    (h : PostR G WF θ H (fun θ' H' d v => Rep G θ' H' d v) (runMode C f ds S) Q) :
    ∃ θ' S', RepL G θ' H ds vs ∧ Sim G θ' S' H ∧ PostR G WF θ' H (fun θ' H' d v => Rep G θ' H' d v) (runFn C f ds S') Q := by
  unfold runMode at h
  split at h
  · exact ⟨θ, S, r, m, h⟩
  · split at h
    · rename_i hp
      refine ⟨[], [], r.plain hp, .nil, ?_⟩
      split at h
      · rename_i d S1 e
        rw [e]
        intro θ1 H1 v e1 m1 r1
        obtain ⟨j1, j2⟩ := own_join m e1 m1
        split at h
        · rename_i hd
          exact h θ H1 v j1.drop (m.ext j1.drop fun a _ o q => e1.fr a o q (by simp)) (r1.plain hd)
        · exact h (θ ++ θ1) H1 v j1 j2 (by rw [← m.len] ; exact r1.shift rfl)
      · rename_i x S1 e
        rw [e]
        split at h
        · exact fun θ1 H1 e1 m1 => h θ H (.refl) m
        · exact h.elim
      · exact h.elim
    · exact h.elim
  · refine ⟨θ, S, r, m, ?_⟩
    split at h
    · rename_i d S1 e
      rw [e]
      split at h
      · rename_i hc
        simp only [Bool.and_eq_true, decide_eq_true_eq] at hc
        exact fun θ1 H1 v e1 m1 r1 => h θ H1 v e1.drop (m.low e1 m1 hc.2) (r1.plain hc.1)
      · exact h.elim
    · rename_i x S1 e
      rw [e]
      exact h
    · exact h.elim
/-- a def keeps what the evaluator says, if those that it calls do -/
theorem fn_step {k : Nat} {f : FDef} {i : Nat} {a : Addr} {fd : FuncData} (hf : fs[i]? = some f) (D : C8.Def K mg f.name f.st a fd) (b : L2.Binds K fd f.ps [])
    (hc : fs.all (ckF ⟨tabF fs 0, gc, cs, kt⟩) = true) (hb : ∀ x ∈ bltN, mg x = none) (hg : ∀ x b, (x, b) ∈ gc → mg x = some (.builtin (bfN b))) (hcs : ∀ x i, cs.lookup x = some i → ∃ t, mg x = some (.int i t))
    (ih : ∀ (i : Nat) (f : FDef), fs[i]? = some f → C8.Cal P w K mg base k f.name (spOf ⟨P, w, K, FA⟩ (callN (fs.map FDef.fn) k) i f.np) [])
    (ihk : ∀ (x : Str) (ks : List Str) (i : Nat) (π : List Nat), kt.lookup (x, ks) = some (i, π) → CalK P w K mg base k x ks π (spOf ⟨P, w, K, FA⟩ (callN (fs.map FDef.fn) k) i π.length)) :
    FnOk P w K mg base C8.CX0 (k + 1) a fd f.ps (spOf ⟨P, w, K, FA⟩ (callN (fs.map FDef.fn) (k + 1)) i f.np) := by
  have hck : ckF ⟨tabF fs 0, gc, cs, kt⟩ f = true := List.all_eq_true.mp hc f (List.mem_of_getElem? hf)
  unfold ckF at hck
  simp only [Bool.and_eq_true, decide_eq_true_eq] at hck
  obtain ⟨⟨h1, h2⟩, h3⟩ := hck
  have S := C8.fnScope_by h2
  have hps : f.ps.length = f.np := by unfold FDef.ps; rw [List.length_take]; omega
  refine C8.fn0 D.fn S (fun vs H Q E h => by rw [hps]; exact h.1) fun cdv A outer s H vs Q E hr hsp => ?_
  have ok : TopOk ⟨tabF fs 0, gc, cs, kt⟩ f.N (callN (fs.map FDef.fn) k) FA (C8.fnScope f.st) (L2.cxOf C8.CX0 P w K mg base f.N f.name (C8.fnScope f.st) a cdv A outer s H E).nox :=
    { hN := rfl, nd := S.nd, hs := rfl, calm := rfl, hf := rfl, blt := hb, gc := hg, cs := hcs, bk := by
        show (if (C8.fnScope f.st).kind.isAnnotationScope then ScopeKind.function else (C8.fnScope f.st).kind) = _
        rw [S.kind]; rfl
      own := PassesOwn.never
      room := ⟨k, hr, fun x i' n hx => by
        obtain ⟨j, g, e1, e2, e3, e4⟩ := tabF_at hx
        have e1' : i' = j := by omega
        subst e1'
        subst e3
        subst e4
        exact ⟨k, Nat.le_refl _, ih i' g e2⟩, fun x ks i' π hx => ⟨k, Nat.le_refl _, ihk x ks i' π hx⟩⟩ }
  refine ⟨_, (sndSs f.body).pss ok h1, ?_⟩
  obtain ⟨hl, θ, S', ds, r, m, h⟩ := hsp
  have dl : ds.length = f.np := by rw [← r.length]; exact hl
  have e1 : (fs.map FDef.fn)[i]? = some f.fn := by rw [List.getElem?_map, hf]; rfl
  have e2 : f.fn.args ds = some ds := by
    unfold Fn.args
    show (if ds.length ≤ f.np ∧ f.np - ds.length ≤ ([] : List Nog.D).length then _ else _) = _
    rw [if_pos ⟨by omega, by simp; omega⟩]
    simp [FDef.fn]
  rw [callN, e1] at h
  simp only [e2] at h
  obtain ⟨θ2, S2, r2, m2, h2⟩ := mode_ok r m h
  exact ⟨_, θ2, S2, start_rep r2, m2, fin_read h2⟩
/-- every own def keeps what the evaluator says -/
theorem cal_all (hd : ∀ (i : Nat) (f : FDef), fs[i]? = some f → ∃ (a : Addr) (fd : FuncData), C8.Def K mg f.name f.st a fd ∧ L2.Binds K fd f.ps [])
    (hk : ∀ (x : Str) (ks : List Str) (i : Nat) (π : List Nat), kt.lookup (x, ks) = some (i, π) → ∃ (f : FDef) (a : Addr) (fd : FuncData), fs[i]? = some f ∧ f.name = x ∧ f.np = π.length ∧ C8.Def K mg f.name f.st a fd ∧ L2.Binds K fd f.ps [] ∧ L2.KBinds K fd f.ps ks (gk ks π) (gkV ks π))
    (hc : fs.all (ckF ⟨tabF fs 0, gc, cs, kt⟩) = true) (hb : ∀ x ∈ bltN, mg x = none) (hg : ∀ x b, (x, b) ∈ gc → mg x = some (.builtin (bfN b))) (hcs : ∀ x i, cs.lookup x = some i → ∃ t, mg x = some (.int i t)) :
    ∀ k : Nat, (∀ (i : Nat) (f : FDef), fs[i]? = some f → C8.Cal P w K mg base k f.name (spOf ⟨P, w, K, FA⟩ (callN (fs.map FDef.fn) k) i f.np) []) ∧
      ∀ (x : Str) (ks : List Str) (i : Nat) (π : List Nat), kt.lookup (x, ks) = some (i, π) → CalK P w K mg base k x ks π (spOf ⟨P, w, K, FA⟩ (callN (fs.map FDef.fn) k) i π.length)
  | 0 => by
    refine ⟨fun i f hf => ?_, fun x ks i π hx => ?_⟩
    · obtain ⟨a, fd, D, b⟩ := hd i f hf
      exact ⟨a, fd, f.ps, [], ⟨fun vs H Q E h => by obtain ⟨_, _, _, _, _, _, h⟩ := h; exact h.elim, fun A outer s H args us vs Q E _ _ _ _ h => by obtain ⟨_, _, _, _, _, _, h⟩ := h; exact h.elim⟩, D.mgf, D.kp, b, .nil⟩
    · obtain ⟨f, a, fd, _, rfl, _, D, _, kb⟩ := hk x ks i π hx
      exact ⟨a, fd, f.ps, ⟨fun vs H Q E h => by obtain ⟨_, _, _, _, _, _, h⟩ := h; exact h.elim, fun A outer s H args us vs Q E _ _ _ _ h => by obtain ⟨_, _, _, _, _, _, h⟩ := h; exact h.elim⟩, D.mgf, D.kp, kb⟩
  | k + 1 => by
    obtain ⟨h1, h2⟩ := cal_all hd hk hc hb hg hcs k
    refine ⟨fun i f hf => ?_, fun x ks i π hx => ?_⟩
    · obtain ⟨a, fd, D, b⟩ := hd i f hf
      exact ⟨a, fd, f.ps, [], fn_step hf D b hc hb hg hcs h1 h2, D.mgf, D.kp, b, .nil⟩
    · obtain ⟨f, a, fd, hf, rfl, hn, D, b, kb⟩ := hk x ks i π hx
      exact ⟨a, fd, f.ps, by rw [← hn]; exact fn_step hf D b hc hb hg hcs h1 h2, D.mgf, D.kp, kb⟩
end
end Nog

set_option Elab.async false
set_option linter.all false
set_option maxRecDepth 100000
set_option maxHeartbeats 2000000
/-! the end: from the head's facts to the law -/
namespace Nog
open PySem PySem.Spec PyProof.Rows L2
def FDef.dd (f : FDef) : He.DefD := ⟨(f.name, none), f.name, f.name, C8.fnArgs f.st, C8.fnBody f.st, C8.fnScope f.st, [], []⟩
def ddOf (fs : List FDef) : List He.DefD := fs.map FDef.dd
def faOf (fs : List FDef) (cs : List (Str × Int)) : List He.Fa := (fs.map fun f => .glo f.name) ++ (bltN.map .free ++ cs.map fun c => .int c.1 c.2)
/-! the head's look, with functions of math -/
abbrev AlX : Type := He.AlD × Bool
def gcOk (gc : List (Str × Bi)) (K : PySem.W.Frag) : Bool := gc.all fun b => He.eqO (PySem.W.nsIn K mainGlobals b.1) (some (some (.builtin (bfN b.2))))
def obsX (fa : List He.Fa) (fn : List He.DefD) (gc : List (Str × Bi)) (K : PySem.W.Frag) : AlX := (He.obsD fa fn K, gcOk gc K)
def SaysX (fa : List He.Fa) (fn : List He.DefD) (gc : List (Str × Bi)) (K : PySem.W.Frag) : Prop := obsX fa fn gc K = (He.valD fn, true)
def obsXG (n : Nat) (fa : List He.Fa) (fn : List He.DefD) (gc : List (Str × Bi)) (g : Addr → Option Obj) : AlX := obsX fa fn gc (He.frG g (He.asD g n))
def hookX (n : Nat) (fa : List He.Fa) (fn : List He.DefD) (gc : List (Str × Bi)) : PySem.W.Hook where
  α := AlX
  obs := fun s => obsXG n fa fn gc s.heap.get?
  val := fun _ => (He.valD fn, true)
  says := fun _ h => ∃ K : PySem.W.Frag, K.In h ∧ SaysX fa fn gc K
  of := fun _ _ e => ⟨_, He.frG_in, e⟩
  keeps := fun _ _ _ ⟨K, hK, c⟩ k => ⟨K, PySem.W.Frag.In.keeps hK k, c⟩
theorem obsXG_eq {n : Nat} {fa : List He.Fa} {fn : List He.DefD} {gc : List (Str × Bi)} {g : Addr → Option Obj} {s : Shared} (h : ∀ a, g a = s.heap.get? a) : obsXG n fa fn gc g = (hookX n fa fn gc).obs s := by
  have e : g = s.heap.get? := funext h
  rw [e] <;> rfl
theorem SaysX.d {fa : List He.Fa} {fn : List He.DefD} {gc : List (Str × Bi)} {K : PySem.W.Frag} (c : SaysX fa fn gc K) : He.SaysD fa fn K := congrArg (fun z : AlX => z.1) c
theorem SaysX.gc {fa : List He.Fa} {fn : List He.DefD} {gc : List (Str × Bi)} {K : PySem.W.Frag} {h : Heap} {mg : Str → Option Value} (c : SaysX fa fn gc K) (X : K.In h) (G : h.Ns mainGlobals mg) : ∀ x b, (x, b) ∈ gc → mg x = some (.builtin (bfN b)) := fun x b hm => by
  have e : gcOk gc K = true := congrArg (fun z : AlX => z.2) c
  exact PySem.W.mg_of X G (He.eqO_ok (List.all_eq_true.mp e (x, b) hm))
theorem lookup_mem {l : List (Str × Int)} {x : Str} {i : Int} (h : l.lookup x = some i) : (x, i) ∈ l := by
  induction l with
  | nil => cases h
  | cons q r ih =>
    obtain ⟨k, v⟩ := q
    rw [List.lookup_cons] at h
    split at h
    · rename_i hk
      cases h
      rw [eq_of_beq hk]
      exact List.mem_cons_self
    · exact List.mem_cons_of_mem _ (ih h)
/-- a def's arguments are bound one by one -/
def BindOk (f : FDef) : Prop := ∀ (kV doc pm : Value) (an : Option Addr) (cdv ct : Value) (us : List Value), us.length = f.ps.length →
  bindArgs (PySem.W.fnOf f.name f.name (C8.fnArgs f.st) (C8.fnBody f.st) (C8.fnScope f.st) .none kV doc pm an cdv ct) ⟨us, []⟩ = pure (f.ps.zip us)
/-- .. or by these keywords -/
def KBindOk (f : FDef) (ks : List Str) (π : List Nat) : Prop := ∀ (kV doc pm : Value) (an : Option Addr) (cdv ct : Value) (ws : List Value), ws.length = ks.length →
  bindArgs (PySem.W.fnOf f.name f.name (C8.fnArgs f.st) (C8.fnBody f.st) (C8.fnScope f.st) .none kV doc pm an cdv ct) ⟨[], ks.zip ws⟩ = pure (f.ps.zip (π.map fun i => ws.getD i .none))
def KwsOk (fs : List FDef) (kt : List ((Str × List Str) × (Nat × List Nat))) : Prop := ∀ (x : Str) (ks : List Str) (i : Nat) (π : List Nat), kt.lookup (x, ks) = some (i, π) → ∃ f : FDef, fs[i]? = some f ∧ f.name = x ∧ f.np = π.length ∧ f.ps ≠ [] ∧ KBindOk f ks π
theorem kws_nil {fs : List FDef} : KwsOk fs [] := fun _ _ _ _ h => by cases h
theorem kws_of {fs : List FDef} {kt : List ((Str × List Str) × (Nat × List Nat))} (h : ∀ q ∈ kt, ∃ f : FDef, fs[q.2.1]? = some f ∧ f.name = q.1.1 ∧ f.np = q.2.2.length ∧ f.ps ≠ [] ∧ KBindOk f q.1.2 q.2.2) : KwsOk fs kt := by
  have mem : ∀ (l : List ((Str × List Str) × (Nat × List Nat))) (k : Str × List Str) (v : Nat × List Nat), l.lookup k = some v → (k, v) ∈ l := fun l k v => by
    induction l with
    | nil => intro e; cases e
    | cons q r ih =>
      intro e
      obtain ⟨k', v'⟩ := q
      rw [List.lookup_cons] at e
      split at e
      · rename_i hk
        cases e
        rw [eq_of_beq hk]
        exact List.mem_cons_self
      · exact List.mem_cons_of_mem _ (ih e)
  intro x ks i π e
  exact h _ (mem kt (x, ks) (i, π) e)
theorem kdef_of {K : PySem.W.Frag} {fd : FuncData} {a : Addr} {f : FDef} {ks : List Str} {π : List Nat} (F : FunD K f.name f.name (C8.fnArgs f.st) (C8.fnBody f.st) (C8.fnScope f.st) [] [] a fd) (hp : f.ps ≠ []) (hb : KBindOk f ks π) : L2.KBinds K fd f.ps ks (gk ks π) (gkV ks π) := by
  refine ⟨fun s us ws hK hl => ?_, fun r rz => gk_rel r rz⟩
  obtain ⟨oc, od, dV, kV, doc, pm, an, cdv, ct, osl, rfl, lk, hcd, hD, hKw⟩ := F.ex
  unfold gk at hl ⊢
  by_cases h : us = [] ∧ ws.length = ks.length
  · rw [if_pos h]
    obtain ⟨rfl, h⟩ := h
    rcases hD with ⟨_, rfl⟩ | ⟨e, _⟩
    · exact .of_eq (hb kV doc pm an cdv ct ws h)
    · exact absurd rfl e
  · rw [if_neg h] at hl
    exact absurd (List.length_eq_zero_iff.mp hl.symm) hp
theorem def_of {K : PySem.W.Frag} {mg : Str → Option Value} {fd : FuncData} {a : Addr} {f : FDef} (F : FunD K f.name f.name (C8.fnArgs f.st) (C8.fnBody f.st) (C8.fnScope f.st) [] [] a fd) (hm : mg f.name = some (.ref a)) (hb : BindOk f) : C8.Def K mg f.name f.st a fd ∧ L2.Binds K fd f.ps [] := by
  refine ⟨⟨⟨?_⟩, hm, F.kp⟩, F.bindsN hb⟩
  obtain ⟨oc, od, dV, kV, doc, pm, an, cdv, ct, osl, h1, h2, h3, _, _⟩ := F.ex
  exact ⟨oc, od, dV, kV, doc, pm, an, cdv, ct, osl, h1, h2, h3⟩
theorem rol_of {K : PySem.W.Frag} {H : Hp} {a : Addr} {xs : List V} (hO : Only H) (h : SqL K H a xs) : SqF K H a xs := by
  rcases h with (h | h) | h
  · rcases hO a with q | ⟨o, ys, q⟩
    · rw [h] at q; cases q
    · rw [h] at q; cases q
  · exact .inl h
  · exact .inr h
theorem plain_ints : ∀ ns : List Int, Nog.D.plainL (ns.map Nog.D.int) = true
  | [] => rfl
  | n :: ns => by rw [List.map_cons, Nog.D.plainL, plain_ints ns]; rfl
theorem rep_ints {G : Gx} {θ : List Addr} {H : Hp} : ∀ ns : List Int, RepL G θ H (ns.map Nog.D.int) (ns.map V.int)
  | [] => .nil
  | n :: ns => .cons .int (rep_ints ns)
theorem kfacts {P : Program} {w : World} {K : PySem.W.Frag} {h : Heap} {mg : Str → Option Value} {fs : List FDef} {gc : List (Str × Bi)} {cs : List (Str × Int)} {kt : List ((Str × List Str) × (Nat × List Nat))} (X : K.In h) (G : h.Ns mainGlobals mg) (c : SaysX (faOf fs cs) (ddOf fs) gc K)
    (hc : fs.all (ckF ⟨tabF fs 0, gc, cs, kt⟩) = true) (hb : ∀ f ∈ fs, BindOk f) (hkb : KwsOk fs kt) (base : Heap) (k : Nat) :
    (∀ (i : Nat) (f : FDef), fs[i]? = some f → C8.Cal P w K mg base k f.name (spOf ⟨P, w, K, fun _ => none⟩ (callN (fs.map FDef.fn) k) i f.np) []) ∧
      ∀ (x : Str) (ks : List Str) (i : Nat) (π : List Nat), kt.lookup (x, ks) = some (i, π) → CalK P w K mg base k x ks π (spOf ⟨P, w, K, fun _ => none⟩ (callN (fs.map FDef.fn) k) i π.length) := by
  have glo : ∀ (i : Nat) (f : FDef), fs[i]? = some f → ∃ a fd, FunD K f.name f.name (C8.fnArgs f.st) (C8.fnBody f.st) (C8.fnScope f.st) [] [] a fd ∧ C8.Def K mg f.name f.st a fd ∧ L2.Binds K fd f.ps [] := fun i f hf => by
    have hm : f ∈ fs := List.mem_of_getElem? hf
    obtain ⟨fd, F⟩ := c.d.defs (d := f.dd) (List.mem_map.mpr ⟨f, hm, rfl⟩)
    exact ⟨_, fd, F, def_of F (He.glo_ok X G (c.d.facts (f := .glo f.name) (List.mem_append_left _ (List.mem_map.mpr ⟨f, hm, rfl⟩)))) (hb f hm)⟩
  refine cal_all (fun i f hf => ?_) (fun x ks i π hx => ?_) hc (fun x hx => ?_) (c.gc X G) (fun x i hx => He.int_ok X G (c.d.facts (f := .int x i) (List.mem_append_right _ (List.mem_append_right _ (List.mem_map.mpr ⟨(x, i), lookup_mem hx, rfl⟩))))) k
  · obtain ⟨a, fd, _, D, b⟩ := glo i f hf
    exact ⟨a, fd, D, b⟩
  · obtain ⟨f, hf, h1, h2, h3, h4⟩ := hkb x ks i π hx
    obtain ⟨a, fd, F, D, b⟩ := glo i f hf
    exact ⟨f, a, fd, hf, h1, h2, D, b, kdef_of F h3 h4⟩
  · exact He.free_ok X G (c.d.facts (f := .free x) (List.mem_append_right _ (List.mem_append_left _ (List.mem_map.mpr ⟨x, hx, rfl⟩))))
theorem facts {P : Program} {w : World} {K : PySem.W.Frag} {h : Heap} {mg : Str → Option Value} {fs : List FDef} {gc : List (Str × Bi)} {cs : List (Str × Int)} {kt : List ((Str × List Str) × (Nat × List Nat))} (X : K.In h) (G : h.Ns mainGlobals mg) (c : SaysX (faOf fs cs) (ddOf fs) gc K)
    (hc : fs.all (ckF ⟨tabF fs 0, gc, cs, kt⟩) = true) (hb : ∀ f ∈ fs, BindOk f) (hkb : KwsOk fs kt) (base : Heap) (k i : Nat) (f : FDef) (hf : fs[i]? = some f) :
    C8.Cal P w K mg base k f.name (spOf ⟨P, w, K, fun _ => none⟩ (callN (fs.map FDef.fn) k) i f.np) [] := by
  exact (kfacts X G c hc hb hkb base k).1 i f hf
/-- what the law's walk asks -/
theorem law_facts {P : Program} {w : World} {K : PySem.W.Frag} {h : Heap} {mg : Str → Option Value} {fa : Addr} {fs : List FDef} {gc : List (Str × Bi)} {cs : List (Str × Int)} {kt : List ((Str × List Str) × (Nat × List Nat))} {k i : Nat} {f : FDef} (X : K.In h) (G : h.Ns mainGlobals mg) (c : SaysX (faOf fs cs) (ddOf fs) gc K)
    (hc : fs.all (ckF ⟨tabF fs 0, gc, cs, kt⟩) = true) (hb : ∀ f ∈ fs, BindOk f) (hkb : KwsOk fs kt) (hf : fs[i]? = some f) (hN : f.ps = [("script" : Str)]) (hn : f.np = 1) (hfa : mg f.name = some (.ref fa))
    (main : ∀ ns : List Int, ns.length ≤ 63 → ∃ S, callN (fs.map FDef.fn) (k + 1) i [.rol (ns.map Nog.D.int)] [] = .ok (.bl true) S) :
    ∃ (fd : FuncData) (sp : Sp), (∀ (s : Shared) (u : Value), BindsTo s fd ⟨[u], []⟩ [(("script" : Str), u)]) ∧
        (∀ (H : Hp) (a : Addr) (ns : List Int), ns.length ≤ 63 → Only H → SqL K H a (ns.map V.int) → sp [.ref a] H (fun v _ => v = .bl true) fun _ _ _ => False) ∧
        ∀ base : Heap, K.In base → base.Ns mainGlobals mg → FnOk P w K mg base C8.CX0 (k + 1) fa fd [("script" : Str)] sp := by
  have hm : f ∈ fs := List.mem_of_getElem? hf
  obtain ⟨fd, F⟩ := c.d.defs (d := f.dd) (List.mem_map.mpr ⟨f, hm, rfl⟩)
  have hmg := He.glo_ok X G (c.d.facts (f := .glo f.name) (List.mem_append_left _ (List.mem_map.mpr ⟨f, hm, rfl⟩)))
  refine ⟨fd, spOf ⟨P, w, K, fun _ => none⟩ (callN (fs.map FDef.fn) (k + 1)) i f.np, fun s u => ?_, fun H a ns hl hO hS => ?_, fun base hK hG => ?_⟩
  · have q := F.bindsA (ps := f.ps) (hb f hm) s [u] (by rw [hN]; rfl)
    rw [hN] at q
    exact q
  · obtain ⟨S, e⟩ := main ns hl
    refine ⟨hn.symm ▸ rfl, [], [], [.rol (ns.map Nog.D.int)], .cons ?_ .nil, .nil, ?_⟩
    · rw [Rep]
      exact ⟨a, _, rfl, rol_of hO hS, plain_ints ns, rep_ints ns⟩
    · rw [e]
      intro θ' H' v _ _ r
      rw [Rep] at r
      exact r
  · rw [hmg] at hfa
    cases hfa
    obtain ⟨D, b⟩ := def_of F hmg (hb f hm)
    have q := fn_step (P := P) (w := w) (base := base) (k := k) hf D b hc (fun x hx => He.free_ok X G (c.d.facts (f := .free x) (List.mem_append_right _ (List.mem_append_left _ (List.mem_map.mpr ⟨x, hx, rfl⟩))))) (c.gc X G) (fun x i hx => He.int_ok X G (c.d.facts (f := .int x i) (List.mem_append_right _ (List.mem_append_right _ (List.mem_map.mpr ⟨(x, i), lookup_mem hx, rfl⟩)))))
      (fun i f hf => (kfacts X G c hc hb hkb base k).1 i f hf) (fun x ks i π hx => (kfacts X G c hc hb hkb base k).2 x ks i π hx) (FA := fun _ => none)
    rw [hN] at q
    exact q
end Nog

set_option Elab.async false
set_option linter.all false
set_option maxRecDepth 100000
set_option maxHeartbeats 2000000
/-! running the evaluator: rules -/
namespace Nog
@[simp] theorem bind_ok {α β : Type} (a : α) (S : Sto) (k : α → Sto → Rs β) : (Rs.ok a S).bind k = k a S := rfl
@[simp] theorem bind_no {α β : Type} (k : α → Sto → Rs β) : (Rs.no : Rs α).bind k = .no := rfl
@[simp] theorem st_ok {α : Type} (a : α) (S : Sto) (σ : Env) (k : α → Sto → Sr) : (Rs.ok a S).st σ k = k a S := rfl
@[simp] theorem toVal_val (d : D) (S : Sto) : (Pv.val d).toVal S = .ok d S := rfl
@[simp] theorem toVal_fresh (xs : List D) (S : Sto) : (Pv.fresh xs).toVal S = .ok (.ref S.length) (S ++ [.lst xs]) := rfl
@[simp] theorem calm_ok {α : Type} (a : α) (S : Sto) : (Rs.ok a S).calm = .ok a S := rfl
@[simp] theorem unl_none {α : Type} (r : Rs α) : r.unl none = r := by cases r <;> rfl
@[simp] theorem blR_some (S : Sto) (b : Bool) : blR S (some b) = .ok (.val (.bl b)) S := rfl
/-! ### comprehensions -/
theorem lcRun_of {ι : Type} {hs : List (Nat × O)} {f : D → Sto → Rs (Option D)} {S : Sto} {enc : ι → D} {g : ι → Option D} (hh : heldOk hs S = true) :
    ∀ {as : List ι}, (∀ a ∈ as, f (enc a) S = .ok (g a) S) → lcRun hs f (as.map enc) S = .ok (as.filterMap g) S
  | [], _ => by simp [lcRun, hh]
  | a :: as, h => by
    rw [List.map_cons, lcRun, if_pos hh, h a List.mem_cons_self, bind_ok, lcRun_of hh fun b hb => h b (List.mem_cons_of_mem _ hb), bind_ok]
    cases e : g a <;> simp [List.filterMap_cons, e]
theorem lcRun_map {ι : Type} {hs : List (Nat × O)} {f : D → Sto → Rs (Option D)} {S : Sto} {enc : ι → D} (v : ι → D) (hh : heldOk hs S = true) {as : List ι} (h : ∀ a ∈ as, f (enc a) S = .ok (some (v a)) S) :
    lcRun hs f (as.map enc) S = .ok (as.map v) S := by
  rw [lcRun_of hh h]
  congr 1
  induction as with
  | nil => rfl
  | cons a as ih => rw [List.filterMap_cons, List.map_cons, ih fun b hb => h b (List.mem_cons_of_mem _ hb)]
theorem lcRun_if {ι : Type} {hs : List (Nat × O)} {f : D → Sto → Rs (Option D)} {S : Sto} {enc : ι → D} (c : ι → Bool) (v : ι → D) (hh : heldOk hs S = true) {as : List ι} (h : ∀ a ∈ as, f (enc a) S = .ok (if c a then some (v a) else none) S) :
    lcRun hs f (as.map enc) S = .ok ((as.filter c).map v) S := by
  rw [lcRun_of hh h]
  congr 1
  clear h
  induction as with
  | nil => rfl
  | cons a as ih =>
    cases e : c a <;> simp [List.filterMap_cons, List.filter_cons, e, ih]
end Nog
namespace Nog
/-! ### calls -/
theorem args_full {f : Fn} {as : List D} (hn : as.length = f.np) : f.args as = some as := by
  unfold Fn.args
  rw [if_pos ⟨by omega, by omega⟩]
  have : f.np - as.length = 0 := by omega
  rw [this, Nat.sub_zero, List.drop_length, List.append_nil]
def envOf (f : Fn) (as : List D) : Env := as.map some ++ List.replicate (f.ns - as.length) none
section
variable {P : List Fn} {m k : Nat} {f : Fn} {as : List D} {S S1 : Sto} {d : D}
theorem call_raw (hf : P[k]? = some f) (hm : f.mode = .raw) (hn : as.length = f.np) : callN P (m + 1) k as S = (evSs (callN P m) f.body (envOf f as) S).fin := by
  rw [callN, hf]
  simp only [args_full hn, runMode, hm]
  rfl
theorem call_own (hf : P[k]? = some f) (hm : f.mode = .own) (hn : as.length = f.np) (hp : D.plainL as = true) (hd : d.plain = true) (hr : ∃ S1, (evSs (callN P m) f.body (envOf f as) []).fin = .ok d S1) : callN P (m + 1) k as S = .ok d S := by
  obtain ⟨S1, hr⟩ := hr
  rw [callN, hf]
  simp only [args_full hn, runMode, hm, hp, if_true]
  have e : runFn (callN P m) f as [] = .ok d S1 := hr
  simp only [e, hd, if_true]
theorem call_ownR (hf : P[k]? = some f) (hm : f.mode = .own) (hn : as.length = f.np) (hp : D.plainL as = true) (hd : d.plain = false) (hr : (evSs (callN P m) f.body (envOf f as) []).fin = .ok d S1) :
    callN P (m + 1) k as S = .ok (d.shift S.length) (S ++ S1.map (O.shift S.length)) := by
  rw [callN, hf]
  simp only [args_full hn, runMode, hm, hp, if_true]
  have e : runFn (callN P m) f as [] = .ok d S1 := hr
  simp only [e, hd]
  rfl
theorem call_gc (hf : P[k]? = some f) (hm : f.mode = .gc) (hn : as.length = f.np) (hd : d.plain = true) (hr : ∃ T, (evSs (callN P m) f.body (envOf f as) S).fin = .ok d (S ++ T)) : callN P (m + 1) k as S = .ok d S := by
  obtain ⟨T, hr⟩ := hr
  rw [callN, hf]
  simp only [args_full hn, runMode, hm]
  have e : runFn (callN P m) f as S = .ok d (S ++ T) := hr
  have e2 : (S ++ T).take S.length = S := by simp
  simp only [e, hd, e2, Bool.true_and, decide_true, if_true]
end
@[simp] theorem fin_rt (d : D) (S : Sto) : (Sr.rt d S).fin = .ok d S := rfl
@[simp] theorem fin_nx (σ : Env) (S : Sto) : (Sr.nx σ S).fin = .ok .non S := rfl
end Nog

set_option Elab.async false
set_option linter.all false
set_option maxRecDepth 100000
set_option maxHeartbeats 2000000
/-! running the evaluator: data -/
namespace Nog
abbrev nD (n : Nat) : D := .int n
abbrev lotD (l : List Nat) : D := .tup (l.map nD)
abbrev stD (s : Nat × List Nat) : D := .tup [nD s.1, lotD s.2]
abbrev prD (c : Nat × Nat) : D := .tup [nD c.1, nD c.2]

/-! ### ints -/
section
variable {S : Sto} {a b : Int}
@[simp] theorem cm_eq : cmP .eq S (.val (.int a)) (.val (.int b)) = some (decide (a = b)) := by simp [cmP, eqP, Pv.lstItems, D.plain, D.depth, D.eqb]
@[simp] theorem cm_ne : cmP .ne S (.val (.int a)) (.val (.int b)) = some (!decide (a = b)) := by simp [cmP, eqP, Pv.lstItems, D.plain, D.depth, D.eqb]
theorem ok_int : okOrd (.int a) (.int b) = true := by simp [okOrd, D.plain, D.depth, D.alike]
@[simp] theorem cm_lt : cmP .lt S (.val (.int a)) (.val (.int b)) = some (decide (a < b)) := by simp [cmP, ordP, ok_int, D.ltb]
@[simp] theorem cm_gt : cmP .gt S (.val (.int a)) (.val (.int b)) = some (decide (b < a)) := by simp [cmP, ordP, ok_int, D.ltb]
@[simp] theorem cm_le : cmP .le S (.val (.int a)) (.val (.int b)) = some (decide (a ≤ b)) := by
  simp only [cmP, ordP, ok_int, D.ltb, if_true]
  congr 1
  by_cases h : a ≤ b
  · simp [h, Int.not_lt.mpr h]
  · simp [h, Int.not_le.mp h]
@[simp] theorem cm_ge : cmP .ge S (.val (.int a)) (.val (.int b)) = some (decide (b ≤ a)) := by
  simp only [cmP, ordP, ok_int, D.ltb, if_true]
  congr 1
  by_cases h : b ≤ a
  · simp [h, Int.not_lt.mpr h]
  · simp [h, Int.not_le.mp h]
@[simp] theorem op_addI : opB .add S (.val (.int a)) (.val (.int b)) = .ok (.val (.int (a + b))) S := rfl
@[simp] theorem op_subI : opB .sub S (.val (.int a)) (.val (.int b)) = .ok (.val (.int (a - b))) S := rfl
theorem op_mulI (h : mulOk a b = true) : opB .mul S (.val (.int a)) (.val (.int b)) = .ok (.val (.int (a * b))) S := by simp [opB, opI, h]
theorem op_modI (h : 0 < b) : opB .mod S (.val (.int a)) (.val (.int b)) = .ok (.val (.int (a % b))) S := by simp [opB, opI, h]
theorem op_fdivI (h : 0 < b) (h2 : b.natAbs.log2 < 9000) : opB .fdiv S (.val (.int a)) (.val (.int b)) = .ok (.val (.int (a / b))) S := by simp [opB, opI, h, h2]
end
@[simp] theorem tr_bl (S : Sto) (b : Bool) : (Pv.val (.bl b)).truth S = some b := rfl
@[simp] theorem op_addT (S : Sto) (xs ys : List D) (h : (xs ++ ys).length ≤ lim) : opB .add S (.val (.tup xs)) (.val (.tup ys)) = .ok (.val (.tup (xs ++ ys))) S := by
  have e : fits (xs ++ ys) = true := by simpa [fits] using h
  simp only [opB, e, if_true]

/-! ### items -/
theorem ixN_nat {i n : Nat} (h : i < n) : ixN (i : Int) n = some i := by
  unfold ixN
  rw [if_pos (by omega), if_pos (by omega)]
  simp
theorem ix_map {α : Type} [Inhabited α] {S : Sto} {f : α → D} {l : List α} {i : Nat} (h : i < l.length) : ixP S (.val (.tup (l.map f))) (.val (nD i)) = some (f (l.getD i default)) := by
  simp only [ixP, List.length_map, ixN_nat h, Option.bind_some, List.getElem?_map, List.getElem?_eq_getElem h, Option.map_some, List.getD_eq_getElem?_getD, Option.getD_some]
theorem ix_lst {α : Type} [Inhabited α] {S : Sto} {f : α → D} {l : List α} {i : Nat} (h : i < l.length) : ixP S (.fresh (l.map f)) (.val (nD i)) = some (f (l.getD i default)) := by
  simp only [ixP, List.length_map, ixN_nat h, Option.bind_some, List.getElem?_map, List.getElem?_eq_getElem h, Option.map_some, List.getD_eq_getElem?_getD, Option.getD_some]
theorem ix_ref {α : Type} [Inhabited α] {S : Sto} {f : α → D} {l : List α} {i k : Nat} (hk : S[k]? = some (.lst (l.map f))) (h : i < l.length) : ixP S (.val (.ref k)) (.val (nD i)) = some (f (l.getD i default)) := by
  simp only [ixP, hk, List.length_map, ixN_nat h, Option.bind_some, List.getElem?_map, List.getElem?_eq_getElem h, Option.map_some, List.getD_eq_getElem?_getD, Option.getD_some]
theorem enum_map {α : Type} [Inhabited α] {f : α → D} : ∀ (l : List α) (j : Int), enumD j (l.map f) = (List.range l.length).map fun i => .tup [.int (j + i), f (l.getD i default)]
  | [], j => rfl
  | a :: l, j => by
    rw [List.map_cons, enumD, enum_map l, List.length_cons, List.range_succ_eq_map, List.map_cons, List.map_map]
    simp only [List.getD_cons_zero, Int.natCast_zero, Int.add_zero, List.cons.injEq, true_and]
    refine List.map_congr_left fun i _ => ?_
    simp [Function.comp, List.getD_cons_succ, Int.add_assoc, Int.add_comm 1]
theorem enum0 {α : Type} [Inhabited α] {f : α → D} (l : List α) : enumD 0 (l.map f) = (List.range l.length).map fun i => .tup [nD i, f (l.getD i default)] := by
  rw [enum_map]
  simp
theorem rng_map (lo : Int) : ∀ n : Nat, intsD lo n = (List.range n).map fun i => .int (lo + i)
  | 0 => rfl
  | n + 1 => by
    rw [intsD, rng_map, List.range_succ_eq_map, List.map_cons, List.map_map]
    simp only [Int.natCast_zero, Int.add_zero, List.cons.injEq, true_and]
    refine List.map_congr_left fun i _ => ?_
    simp [Function.comp, Int.add_assoc, Int.add_comm 1]
@[simp] theorem rngL0 (n : Nat) : rngL 0 n = (List.range n).map nD := by
  unfold rngL
  rw [rng_map]
  simp

/-! ### plain data -/
section
variable {α : Type} {f : α → D} {l : List α}
theorem plainL_map (h : ∀ a ∈ l, (f a).plain = true) : D.plainL (l.map f) = true := by
  induction l with
  | nil => rfl
  | cons a l ih => rw [List.map_cons, D.plainL, h a List.mem_cons_self, ih fun b hb => h b (List.mem_cons_of_mem _ hb)]; rfl
theorem depthL_map {k : Nat} (h : ∀ a ∈ l, (f a).depth ≤ k) : D.depthL (l.map f) ≤ k := by
  induction l with
  | nil => exact Nat.zero_le _
  | cons a l ih =>
    rw [List.map_cons, D.depthL]
    exact Nat.max_le.mpr ⟨h a List.mem_cons_self, ih fun b hb => h b (List.mem_cons_of_mem _ hb)⟩
theorem isKeyL_map (h : ∀ a ∈ l, (f a).isKey = true) : D.isKeyL (l.map f) = true := by
  induction l with
  | nil => rfl
  | cons a l ih => rw [List.map_cons, D.isKeyL, h a List.mem_cons_self, ih fun b hb => h b (List.mem_cons_of_mem _ hb)]; rfl
theorem plainL_iff : ∀ {xs : List D}, D.plainL xs = true ↔ ∀ x ∈ xs, x.plain = true
  | [] => by simp [D.plainL]
  | x :: xs => by simp [D.plainL, plainL_iff (xs := xs)]
theorem depthL_le {k : Nat} : ∀ {xs : List D}, D.depthL xs ≤ k ↔ ∀ x ∈ xs, x.depth ≤ k
  | [] => by simp [D.depthL]
  | x :: xs => by simp [D.depthL, depthL_le (xs := xs), Nat.max_le]
end
/-- plain and not too deep -/
def D.good (k : Nat) (d : D) : Prop := d.plain = true ∧ d.depth ≤ k
def goodL (k : Nat) (xs : List D) : Prop := D.plainL xs = true ∧ D.depthL xs ≤ k
theorem good_int {k : Nat} (i : Int) : (D.int i).good k := ⟨rfl, by simp [D.depth]⟩
theorem good_bl {k : Nat} (i : Bool) : (D.bl i).good k := ⟨rfl, by simp [D.depth]⟩
theorem good_non {k : Nat} : (D.non).good k := ⟨rfl, by simp [D.depth]⟩
theorem good_str {k : Nat} (s : List Nat) : (D.str s).good k := ⟨rfl, by simp [D.depth]⟩
theorem good_tup {k : Nat} {xs : List D} (h : goodL k xs) : (D.tup xs).good (k + 1) := ⟨by rw [D.plain]; exact h.1, by rw [D.depth]; exact Nat.succ_le_succ h.2⟩
theorem goodL_nil {k : Nat} : goodL k [] := ⟨rfl, Nat.zero_le _⟩
theorem goodL_cons {k : Nat} {x : D} {xs : List D} (h : x.good k) (h2 : goodL k xs) : goodL k (x :: xs) := ⟨by rw [D.plainL, h.1, h2.1]; rfl, by rw [D.depthL]; exact Nat.max_le.mpr ⟨h.2, h2.2⟩⟩
theorem goodL_map {α : Type} {f : α → D} {l : List α} {k : Nat} (h : ∀ a ∈ l, (f a).good k) : goodL k (l.map f) := ⟨plainL_map fun a ha => (h a ha).1, depthL_map fun a ha => (h a ha).2⟩
theorem good_up {k j : Nat} {d : D} (h : d.good k) (l : k ≤ j) : d.good j := ⟨h.1, Nat.le_trans h.2 l⟩
theorem good_lot {k : Nat} (l : List Nat) : (lotD l).good (k + 1) := good_tup (goodL_map fun a _ => good_int _)
theorem good_st {k : Nat} (s : Nat × List Nat) : (stD s).good (k + 2) := good_tup (goodL_cons (good_int _) (goodL_cons (good_lot _) goodL_nil))
theorem eqb_refl_of_plain : True := trivial
theorem key_lot (l : List Nat) : okKey (lotD l) = true := by
  have h1 : D.isKeyL (l.map nD) = true := isKeyL_map fun a _ => rfl
  have h2 : D.depthL (l.map nD) ≤ 0 := depthL_map fun a _ => by simp [D.depth]
  have h3 : (lotD l).depth ≤ 8 := by rw [D.depth]; omega
  have h4 : (lotD l).isKey = true := by rw [D.isKey]; exact h1
  simp only [okKey, h4, h3, Bool.true_and, decide_true]
theorem key_st (s : Nat × List Nat) : okKey (stD s) = true := by
  have h1 : D.isKeyL (s.2.map nD) = true := isKeyL_map fun a _ => rfl
  have h2 : D.depthL (s.2.map nD) ≤ 0 := depthL_map fun a _ => by simp [D.depth]
  have h3 : (stD s).depth ≤ 8 := by simp only [D.depth, D.depthL]; omega
  have h4 : (stD s).isKey = true := by simp only [D.isKey, D.isKeyL, h1, Bool.true_and, Bool.and_true]
  simp only [okKey, h4, h3, Bool.true_and, decide_true]
theorem nD_inj {a b : Nat} : nD a = nD b ↔ a = b := ⟨fun h => by cases h; rfl, fun h => by rw [h]⟩
theorem map_inj {α : Type} {f : α → D} (hf : ∀ a b, f a = f b → a = b) : ∀ {l m : List α}, l.map f = m.map f → l = m
  | [], [], _ => rfl
  | [], _ :: _, h => by simp at h
  | _ :: _, [], h => by simp at h
  | a :: l, b :: m, h => by
    simp only [List.map_cons, List.cons.injEq] at h
    rw [hf a b h.1, map_inj hf h.2]
theorem lotD_inj {a b : List Nat} (h : lotD a = lotD b) : a = b := map_inj (fun a b => nD_inj.mp) (by simpa [lotD] using h)
theorem stD_inj {a b : Nat × List Nat} (h : stD a = stD b) : a = b := by
  simp only [stD, D.tup.injEq, List.cons.injEq, D.int.injEq, Int.natCast_inj, and_true] at h
  exact Prod.ext h.1 (map_inj (fun a b => nD_inj.mp) h.2)

/-! ### membership -/
theorem memb_int (x : Int) : ∀ xs : List Int, memb (.int x) (xs.map .int) = decide (x ∈ xs)
  | [] => rfl
  | y :: ys => by
    rw [List.map_cons, memb, memb_int x ys]
    simp only [D.eqb, List.mem_cons]
    by_cases h : y = x
    · simp [h]
    · simp [h, Ne.symm h]
theorem memb_nat (x : Nat) (xs : List Nat) : memb (nD x) (xs.map nD) = decide (x ∈ xs) := by
  have := memb_int x (xs.map fun (n : Nat) => (n : Int))
  rw [List.map_map] at this
  refine this.trans ?_
  congr 1
  rw [List.mem_map]
  refine propext ⟨fun ⟨a, h, e⟩ => ?_, fun h => ⟨x, h, rfl⟩⟩
  have : a = x := by omega
  rw [← this]; exact h
theorem in_lot (S : Sto) (x : Nat) (l : List Nat) : cmP .inn S (.val (nD x)) (.val (lotD l)) = some (decide (x ∈ l)) := by
  have h1 : D.plainL (l.map nD) = true := plainL_map fun a _ => rfl
  have h2 : D.depthL (l.map nD) ≤ 60 := depthL_map fun a _ => by simp [D.depth]
  simp only [cmP, inP, h1, h2, D.plain, D.depth, memb_nat]
  simp
theorem notin_lot (S : Sto) (x : Nat) (l : List Nat) : cmP .notin S (.val (nD x)) (.val (lotD l)) = some (!decide (x ∈ l)) := by
  have h := in_lot S x l
  simp only [cmP] at h ⊢
  rw [h]; rfl
/-! ### dicts: keys by an injective coding -/
section
variable {κ : Type} [DecidableEq κ] {enc : κ → D}
def putK {β : Type} (k : κ) (v : β) : List (κ × β) → List (κ × β)
  | [] => [(k, v)]
  | (a, u) :: r => if a = k then (a, v) :: r else (a, u) :: putK k v r
def getK {β : Type} (k : κ) : List (κ × β) → Option β
  | [] => none
  | (a, u) :: r => if a = k then some u else getK k r
def kvD (enc : κ → D) (l : List (κ × D)) : List (D × D) := l.map fun p => (enc p.1, p.2)
theorem look_kv (hi : ∀ a b, enc a = enc b → a = b) (k : κ) : ∀ l : List (κ × D), lookD (enc k) (kvD enc l) = getK k l
  | [] => rfl
  | (a, v) :: r => by
    show lookD (enc k) ((enc a, v) :: kvD enc r) = _
    rw [lookD, getK, look_kv hi k r]
    by_cases h : a = k
    · rw [if_pos (by rw [h]), if_pos h]
    · rw [if_neg (fun e => h (hi _ _ e)), if_neg h]
theorem put_kv (hi : ∀ a b, enc a = enc b → a = b) (k : κ) (v : D) : ∀ l : List (κ × D), putD (enc k) v (kvD enc l) = kvD enc (putK k v l)
  | [] => rfl
  | (a, u) :: r => by
    show putD (enc k) v ((enc a, u) :: kvD enc r) = _
    rw [putD, putK, put_kv hi k v r]
    by_cases h : a = k
    · rw [if_pos (by rw [h]), if_pos h]; rfl
    · rw [if_neg (fun e => h (hi _ _ e)), if_neg h]; rfl
theorem any_kv (hi : ∀ a b, enc a = enc b → a = b) (k : κ) : ∀ l : List (κ × D), ((kvD enc l).any fun p => decide (p.1 = enc k)) = (l.any fun p => decide (p.1 = k))
  | [] => rfl
  | (a, u) :: r => by
    show (((enc a, u) :: kvD enc r).any fun p => decide (p.1 = enc k)) = _
    rw [List.any_cons, List.any_cons, any_kv hi k r]
    congr 1
    by_cases h : a = k
    · simp [h]
    · simp [h, fun e : enc a = enc k => h (hi _ _ e)]
      exact fun e => h (hi _ _ e)
theorem keys_kv (l : List (κ × D)) : (kvD enc l).map (·.1) = l.map fun p => enc p.1 := by
  unfold kvD
  rw [List.map_map]; rfl
theorem drop_kv (hi : ∀ a b, enc a = enc b → a = b) (k : κ) (l : List (κ × D)) : dropD (enc k) (kvD enc l) = kvD enc (l.filter fun p => decide (p.1 ≠ k)) := by
  unfold dropD kvD
  rw [List.filter_map]
  congr 1
  refine List.filter_congr fun p _ => ?_
  simp only [Function.comp]
  by_cases h : p.1 = k
  · simp [h]
  · simp [h]
    exact fun e => h (hi _ _ e)
end
end Nog

set_option Elab.async false
set_option linter.all false
set_option maxRecDepth 100000
set_option maxHeartbeats 2000000
/-! running the evaluator: rules for statements and expressions -/
namespace Nog
section
variable {C : Call} {σ σ1 σ2 : Env} {S S1 S2 S3 S4 : Sto} {p q r : Pv} {d : D} {e a b c : E} {es : List E}
/-! ### built-ins on told values -/
@[simp] theorem it_tup (xs : List D) : (Pv.val (.tup xs)).items S = some xs := rfl
@[simp] theorem it_fresh (xs : List D) : (Pv.fresh xs).items S = some xs := rfl
@[simp] theorem it_its (xs : List D) (hs : List (Nat × O)) : (Pv.its xs hs).items S = some xs := rfl
@[simp] theorem it_rng (lo hi : Int) : (Pv.rng lo hi).items S = some (rngL lo hi) := rfl
@[simp] theorem it_rol (xs : List D) : (Pv.val (.rol xs)).items S = some xs := rfl
@[simp] theorem lk_tup (xs : List D) : (Pv.val (.tup xs)).lock S = none := rfl
@[simp] theorem lk_fresh (xs : List D) : (Pv.fresh xs).lock S = none := rfl
@[simp] theorem lk_its (xs : List D) (hs : List (Nat × O)) : (Pv.its xs hs).lock S = none := rfl
@[simp] theorem lk_rng (lo hi : Int) : (Pv.rng lo hi).lock S = none := rfl
@[simp] theorem hd_tup (xs : List D) : (Pv.val (.tup xs)).held S = [] := rfl
@[simp] theorem hd_fresh (xs : List D) : (Pv.fresh xs).held S = [] := rfl
@[simp] theorem hd_its (xs : List D) (hs : List (Nat × O)) : (Pv.its xs hs).held S = hs := rfl
@[simp] theorem hd_rng (lo hi : Int) : (Pv.rng lo hi).held S = [] := rfl
@[simp] theorem held_nil : heldOk [] S = true := rfl
@[simp] theorem sq_tup (xs : List D) : (Pv.val (.tup xs)).seqI S = some xs := rfl
@[simp] theorem sq_fresh (xs : List D) : (Pv.fresh xs).seqI S = some xs := rfl
@[simp] theorem ls_fresh (xs : List D) : (Pv.fresh xs).lstItems S = some xs := rfl
@[simp] theorem bg_tup (xs : List D) : (Pv.val (.tup xs)).bag S = some xs := rfl
@[simp] theorem bg_fresh (xs : List D) : (Pv.fresh xs).bag S = some xs := rfl
@[simp] theorem b_tupF (xs : List D) : bi1 .tuple S (.fresh xs) = .ok (.val (.tup xs)) S := rfl
@[simp] theorem b_tupT (xs : List D) : bi1 .tuple S (.val (.tup xs)) = .ok (.val (.tup xs)) S := rfl
@[simp] theorem b_lenF (xs : List D) : bi1 .len S (.fresh xs) = .ok (.val (.int xs.length)) S := rfl
@[simp] theorem b_lenT (xs : List D) : bi1 .len S (.val (.tup xs)) = .ok (.val (.int xs.length)) S := rfl
@[simp] theorem b_intI (i : Int) : bi1 .int S (.val (.int i)) = .ok (.val (.int i)) S := rfl
@[simp] theorem b_intB (b : Bool) : bi1 .int S (.val (.bl b)) = .ok (.val (.int (D.b2i b))) S := rfl
@[simp] theorem b_listF (xs : List D) : bi1 .list S (.fresh xs) = .ok (.fresh xs) S := rfl
@[simp] theorem b_listT (xs : List D) : bi1 .list S (.val (.tup xs)) = .ok (.fresh xs) S := rfl
@[simp] theorem b_max2 (i j : Int) : bi2 .max S (.int i) (.int j) = .ok (.val (.int (if j > i then j else i))) S := rfl
@[simp] theorem b_min2 (i j : Int) : bi2 .min S (.int i) (.int j) = .ok (.val (.int (if j < i then j else i))) S := rfl
@[simp] theorem ix_t0 (x : D) (xs : List D) : ixP S (.val (.tup (x :: xs))) (.val (.int 0)) = some x := by
  simp [ixP, ixN]
@[simp] theorem ix_t1 (x y : D) (xs : List D) : ixP S (.val (.tup (x :: y :: xs))) (.val (.int 1)) = some y := by
  have h : (1 : Int) < (xs.length : Int) + 1 + 1 := by omega
  simp [ixP, ixN, h]
@[simp] theorem isN_tup (xs : List D) : (Pv.val (.tup xs)).isN = false := rfl
@[simp] theorem isN_int (xs : Int) : (Pv.val (.int xs)).isN = false := rfl
@[simp] theorem isN_bl (xs : Bool) : (Pv.val (.bl xs)).isN = false := rfl
@[simp] theorem isN_non : (Pv.val .non).isN = true := rfl
/-! ### expressions -/
@[simp] theorem ev_var {i : Nat} (h : σ[i]? = some (some d)) : ev C (.var i) σ S = .ok (.val d) S := by rw [ev, h]
@[simp] theorem ev_lit : ev C (.lit d) σ S = .ok (.val d) S := by rw [ev]
theorem r_b1 {u : Bi} (h : ev C a σ S = .ok p S1) (h2 : bi1 u S1 p = .ok q S2) : ev C (.b1 u a) σ S = .ok q S2 := by rw [ev, h, bind_ok, h2]
theorem r_b2 {u : Bi} {x y : D} (h : ev C a σ S = .ok (.val x) S1) (h1 : ev C b σ S1 = .ok (.val y) S2) (h2 : bi2 u S2 x y = .ok q S3) : ev C (.b2 u a b) σ S = .ok q S3 := by rw [ev, h, bind_ok, h1, bind_ok]; exact h2
theorem r_ix (h : ev C a σ S = .ok p S1) (h1 : ev C b σ S1 = .ok q S2) (h2 : ixP S2 p q = some d) : ev C (.ix a b) σ S = .ok (.val d) S2 := by rw [ev, h, bind_ok, h1, bind_ok, h2]
theorem r_bin {o : Op} (h : ev C a σ S = .ok p S1) (h1 : ev C b σ S1 = .ok q S2) (h2 : opB o S2 p q = .ok r S3) : ev C (.bin o a b) σ S = .ok r S3 := by rw [ev, h, bind_ok, h1, bind_ok, h2]
theorem r_cmp {o : Cm} {t : Bool} (h : ev C a σ S = .ok p S1) (h1 : ev C b σ S1 = .ok q S2) (h2 : cmP o S2 p q = some t) : ev C (.cmp o a b) σ S = .ok (.val (.bl t)) S2 := by rw [ev, h, bind_ok, h1, bind_ok, h2]; rfl
theorem r_nt {t : Bool} (h : ev C a σ S = .ok p S1) (h2 : p.truth S1 = some t) : ev C (.nt a) σ S = .ok (.val (.bl (!t))) S1 := by rw [ev, h, bind_ok, h2]; rfl
theorem r_an {t u : Bool} (h : ev C a σ S = .ok (.val (.bl t)) S) (h1 : t = true → ev C b σ S = .ok (.val (.bl u)) S) : ev C (.an a b) σ S = .ok (.val (.bl (t && u))) S := by
  rw [ev, h, bind_ok]
  cases t
  · rfl
  · simp only [tr_bl, Bool.true_and]; exact h1 rfl
theorem r_or {t u : Bool} (h : ev C a σ S = .ok (.val (.bl t)) S) (h1 : t = false → ev C b σ S = .ok (.val (.bl u)) S) : ev C (.orr a b) σ S = .ok (.val (.bl (t || u))) S := by
  rw [ev, h, bind_ok]
  cases t
  · simp only [tr_bl, Bool.false_or]; exact h1 rfl
  · rfl
theorem r_ite {t : Bool} (h : ev C c σ S = .ok p S1) (h2 : p.truth S1 = some t) (ha : t = true → ev C a σ S1 = .ok q S2) (hb : t = false → ev C b σ S1 = .ok q S2) : ev C (.ite c a b) σ S = .ok q S2 := by
  rw [ev, h, bind_ok, h2]
  cases t
  · exact hb rfl
  · exact ha rfl
theorem r_isn (h : ev C a σ S = .ok p S1) : ev C (.isn a) σ S = .ok (.val (.bl p.isN)) S1 := by rw [ev, h, bind_ok]
theorem r_nisn (h : ev C a σ S = .ok p S1) : ev C (.nisn a) σ S = .ok (.val (.bl (!p.isN))) S1 := by rw [ev, h, bind_ok]
theorem r_enu {xs : List D} (h : ev C a σ S = .ok p S1) (h2 : p.seqI S1 = some xs) : ev C (.enu a) σ S = .ok (.its (enumD 0 xs) (p.held S1)) S1 := by rw [ev, h, bind_ok, h2]
theorem r_tup {ds : List D} (h : evs C es σ S = .ok ds S1) : ev C (.tup es) σ S = .ok (.val (.tup ds)) S1 := by rw [ev, h, bind_ok]
theorem r_lst {ds : List D} (h : evs C es σ S = .ok ds S1) : ev C (.lst es) σ S = .ok (.fresh ds) S1 := by rw [ev, h, bind_ok]
theorem r_nil : evs C [] σ S = .ok [] S := by rw [evs]
theorem r_cons {ds : List D} (h : ev C e σ S = .ok p S1) (h1 : p.toVal S1 = .ok d S2) (h2 : evs C es σ S2 = .ok ds S3) : evs C (e :: es) σ S = .ok (d :: ds) S3 := by rw [evs, h, bind_ok, h1, bind_ok, h2, bind_ok]
theorem r_consV {ds : List D} (h : ev C e σ S = .ok (.val d) S1) (h2 : evs C es σ S1 = .ok ds S2) : evs C (e :: es) σ S = .ok (d :: ds) S2 := r_cons h rfl h2
theorem r_call {k : Nat} {ds : List D} (h : evs C es σ S = .ok ds S1) (h1 : C k ds S1 = .ok d S2) : ev C (.call k es) σ S = .ok (.val d) S2 := by rw [ev, h, bind_ok, h1, bind_ok]
theorem r_rg1 {n : Int} (h : ev C a σ S = .ok (.val (.int n)) S1) (h1 : -16777216 ≤ n) (h2 : n ≤ 16777216) : ev C (.rg1 a) σ S = .ok (.rng 0 n) S1 := by
  rw [ev, h, bind_ok]
  simp [lim, h1, h2]
theorem r_rg2 {m n : Int} (h : ev C a σ S = .ok (.val (.int m)) S1) (h1 : ev C b σ S1 = .ok (.val (.int n)) S2) (h2 : n - m ≤ 16777216) (h3 : m.natAbs < 2 ^ 62) (h4 : n.natAbs < 2 ^ 62) : ev C (.rg2 a b) σ S = .ok (.rng m n) S2 := by
  rw [ev, h, bind_ok, h1, bind_ok]
  have e : (decide (n - m ≤ (lim : Int)) && decide (m.natAbs < 2 ^ 62) && decide (n.natAbs < 2 ^ 62)) = true := by
    rw [decide_eq_true h3, decide_eq_true h4, decide_eq_true (show n - m ≤ (lim : Int) from h2)]; rfl
  simp only [e, if_true]
theorem r_ms {m : Me} {ds : List D} (h : ev C a σ S = .ok p S1) (ho : m.on S1 p = true) (h1 : evs C es σ S1 = .ok ds S2) (h2 : ms m S2 p ds = .ok q S3) : ev C (.ms m a es) σ S = .ok q S3 := by rw [ev, h, bind_ok, if_pos ho, h1, bind_ok, h2]
theorem r_dc0 : ev C .dc0 σ S = .ok (.val (.ref S.length)) (S ++ [.dct false []]) := by rw [ev]
/-- what one turn of a comprehension gives -/
def lcStep (C : Call) (tg : Tg) (own : List Nat) (ifs : List E) (elt : E) (σ : Env) (x : D) (S : Sto) : Rs (Option D) :=
  match bindTg tg x (wipe σ own) with
  | some σ1 => (evi C ifs σ1 S).bind fun b S2 => if b then (ev C elt σ1 S2).bind fun r S3 => (r.toVal S3).bind fun y S4 => .ok (some y) S4 else .ok none S2
  | none => .no
theorem lcStep_if {tg : Tg} {own : List Nat} {ifs : List E} {elt : E} {x v : D} {t : Bool} (hb : bindTg tg x (wipe σ own) = some σ1) (ht : evi C ifs σ1 S = .ok t S) (hv : t = true → ev C elt σ1 S = .ok (.val v) S) :
    lcStep C tg own ifs elt σ x S = .ok (if t then some v else none) S := by
  unfold lcStep
  simp only [hb, ht, bind_ok]
  cases t
  · rfl
  · simp only [if_true, hv rfl, bind_ok, toVal_val]
theorem lcStep_all {tg : Tg} {own : List Nat} {elt : E} {x v : D} (hb : bindTg tg x (wipe σ own) = some σ1) (hv : ev C elt σ1 S = .ok (.val v) S) :
    lcStep C tg own [] elt σ x S = .ok (some v) S := by
  unfold lcStep
  simp only [hb, evi, bind_ok, if_true, hv, toVal_val]
theorem r_if1 {t : Bool} (h : ev C e σ S = .ok p S1) (h2 : p.truth S1 = some t) : evi C [e] σ S = .ok t S1 := by
  rw [evi, h, bind_ok, h2]
  cases t
  · rfl
  · simp only [evi]
theorem r_lc {ι : Type} {tg : Tg} {own : List Nat} {ifs : List E} {elt : E} {as : List ι} {enc : ι → D} {xs : List D} (c : ι → Bool) (v : ι → D) (hq : ev C e σ S = .ok p S1) (hi : p.items S1 = some xs) (hx : xs = as.map enc) (hl : p.lock S1 = none) (hh : heldOk (p.held S1) S1 = true)
    (h : ∀ a ∈ as, lcStep C tg own ifs elt σ (enc a) S1 = .ok (if c a then some (v a) else none) S1) : ev C (.lc own elt tg e ifs) σ S = .ok (.fresh ((as.filter c).map v)) S1 := by
  rw [ev, hq, bind_ok, hi]
  have e1 : p.lockS S1 = S1 := by unfold Pv.lockS; rw [hl]
  have e2 := lcRun_if (hs := p.held S1) c v hh h
  simp only [hl, e1, unl_none]
  subst hx
  exact congrArg (fun r : Rs (List D) => r.calm.bind fun ys S2 => Rs.ok (Pv.fresh ys) S2) e2
theorem r_lcm {ι : Type} {tg : Tg} {own : List Nat} {elt : E} {as : List ι} {enc : ι → D} {xs : List D} (v : ι → D) (hq : ev C e σ S = .ok p S1) (hi : p.items S1 = some xs) (hx : xs = as.map enc) (hl : p.lock S1 = none) (hh : heldOk (p.held S1) S1 = true)
    (h : ∀ a ∈ as, lcStep C tg own [] elt σ (enc a) S1 = .ok (some (v a)) S1) : ev C (.lc own elt tg e []) σ S = .ok (.fresh (as.map v)) S1 := by
  have q := r_lc (c := fun _ => true) (v := v) hq hi hx hl hh (fun a ha => by rw [h a ha]; rfl) (C := C) (tg := tg) (own := own) (ifs := []) (elt := elt)
  rw [q, List.filter_eq_self.mpr (fun _ _ => rfl)]

/-! ### statements -/
/-- what a row of statements leads to is as wanted -/
@[irreducible] def Wp (C : Call) (ss : List St) (σ : Env) (S : Sto) (Q : Sr → Prop) : Prop := Q (evSs C ss σ S)
theorem wp_eq {C : Call} {ss : List St} {σ : Env} {S : Sto} {Q : Sr → Prop} : Wp C ss σ S Q = Q (evSs C ss σ S) := by unfold Wp; rfl
theorem wp_of {C : Call} {ss : List St} {σ : Env} {S : Sto} {Q : Sr → Prop} (h : Wp C ss σ S Q) : Q (evSs C ss σ S) := by rw [wp_eq] at h; exact h
def sq (C : Call) (ss : List St) (Q : Sr → Prop) : Sr → Prop
  | .nx σ S => Wp C ss σ S Q
  | r => Q r
variable {ss : List St} {Q : Sr → Prop}
theorem w_nil (h : Q (.nx σ S)) : Wp C [] σ S Q := by unfold Wp; rw [evSs]; exact h
theorem w_cons {s : St} (h : sq C ss Q (evS C s σ S)) : Wp C (s :: ss) σ S Q := by
  rw [wp_eq, evSs]
  cases q : evS C s σ S <;> rw [q] at h <;> first | exact h | exact wp_of h
theorem w_asg {tg : Tg} (h : ev C e σ S = .ok p S1) (hv : p.toVal S1 = .ok d S2) (hb : bindTg tg d σ = some σ1) (k : Wp C ss σ1 S2 Q) : Wp C (.asg tg e :: ss) σ S Q := by
  refine w_cons ?_
  rw [evS, h, st_ok, hv, st_ok, hb]
  exact k
theorem w_asgV {tg : Tg} (h : ev C e σ S = .ok (.val d) S1) (hb : bindTg tg d σ = some σ1) (k : Wp C ss σ1 S1 Q) : Wp C (.asg tg e :: ss) σ S Q := w_asg h rfl hb k
theorem w_ret (h : ev C e σ S = .ok p S1) (hv : p.toVal S1 = .ok d S2) (k : Q (.rt d S2)) : Wp C (.ret e :: ss) σ S Q := by
  refine w_cons ?_
  rw [evS, h, st_ok, hv, st_ok]
  exact k
theorem w_retV (h : ev C e σ S = .ok (.val d) S1) (k : Q (.rt d S1)) : Wp C (.ret e :: ss) σ S Q := w_ret h rfl k
theorem w_retn (k : Q (.rt .non S)) : Wp C (.retn :: ss) σ S Q := by
  refine w_cons ?_
  rw [evS]
  exact k
theorem w_ex (h : ev C e σ S = .ok p S1) (k : Wp C ss σ S1 Q) : Wp C (.ex e :: ss) σ S Q := by
  refine w_cons ?_
  rw [evS, h, st_ok]
  exact k
theorem w_pas (k : Wp C ss σ S Q) : Wp C (.pas :: ss) σ S Q := by
  refine w_cons ?_
  rw [evS]
  exact k
theorem w_brk (k : Q (.bk σ S)) : Wp C (.brk :: ss) σ S Q := by
  refine w_cons ?_
  rw [evS]
  exact k
theorem w_cnt (k : Q (.ct σ S)) : Wp C (.cnt :: ss) σ S Q := by
  refine w_cons ?_
  rw [evS]
  exact k
theorem w_iff {t : Bool} {x y : List St} (h : ev C e σ S = .ok p S1) (ht : p.truth S1 = some t) (hx : t = true → Wp C x σ S1 (sq C ss Q)) (hy : t = false → Wp C y σ S1 (sq C ss Q)) : Wp C (.iff e x y :: ss) σ S Q := by
  refine w_cons ?_
  rw [evS]
  have q : evt C e σ S = .ok t S1 := by unfold evt; rw [h, bind_ok, ht]
  rw [q, st_ok]
  cases t
  · exact wp_of (hy rfl)
  · exact wp_of (hx rfl)
theorem w_end (h : Wp C ss σ S Q) : Wp C [] σ S (sq C ss Q) := by unfold Wp; rw [evSs]; exact h
theorem w_put {i o : E} {v : D} (h : ev C e σ S = .ok p S1) (hv : p.toVal S1 = .ok v S2) (ho : ev C o σ S2 = .ok q S3) (hi : ev C i σ S3 = .ok r S4) {S5 : Sto} (hp : putQ q r v S4 = .ok () S5) (k : Wp C ss σ S5 Q) : Wp C (.put o i e :: ss) σ S Q := by
  refine w_cons ?_
  rw [evS, h, st_ok, hv, st_ok, ho, st_ok, hi, st_ok, hp, st_ok]
  exact k
theorem w_putV {i o : E} {v : D} (h : ev C e σ S = .ok (.val v) S2) (ho : ev C o σ S2 = .ok q S3) (hi : ev C i σ S3 = .ok r S4) {S5 : Sto} (hp : putQ q r v S4 = .ok () S5) (k : Wp C ss σ S5 Q) : Wp C (.put o i e :: ss) σ S Q := w_put h rfl ho hi hp k
/-- a loop over told items -/
theorem fr_run {ι : Type} {enc : ι → D} {hs : List (Nat × O)} {f : D → Env → Sto → Sr} (Inv : List ι → Env → Sto → Prop) :
    ∀ {as : List ι} (pre : List ι) {σ : Env} {S : Sto},
    (∀ pre' a post σ S, pre ++ as = pre' ++ a :: post → Inv pre' σ S → heldOk hs S = true ∧ (match f (enc a) σ S with
      | .nx σ' S' => Inv (pre' ++ [a]) σ' S'
      | .ct σ' S' => Inv (pre' ++ [a]) σ' S'
      | .bk σ' S' => Q (.nx σ' S')
      | r => Q r)) →
    (∀ σ S, Inv (pre ++ as) σ S → heldOk hs S = true ∧ Q (.nx σ S)) → Inv pre σ S → Q (frRun hs f (as.map enc) σ S)
  | [], pre, σ, S, _, fin, h => by
    obtain ⟨h1, h2⟩ := fin σ S (by rw [List.append_nil]; exact h)
    rw [List.map_nil, frRun, if_pos h1]
    exact h2
  | a :: as, pre, σ, S, step, fin, h => by
    obtain ⟨h1, h2⟩ := step pre a as σ S rfl h
    rw [List.map_cons, frRun, if_pos h1]
    have e0 : pre ++ a :: as = (pre ++ [a]) ++ as := by simp
    have go : ∀ σ' S', Inv (pre ++ [a]) σ' S' → Q (frRun hs f (as.map enc) σ' S') := fun σ' S' h' =>
      fr_run Inv (pre ++ [a]) (fun p' a' q' s' T' e' => step p' a' q' s' T' (e0.trans e')) (fun s' T' hi => fin s' T' (by rw [e0]; exact hi)) h'
    cases e : f (enc a) σ S <;> rw [e] at h2 <;> first | exact go _ _ h2 | exact h2
def frSq (C : Call) (ss : List St) (Q : Sr → Prop) (I : Env → Sto → Prop) : Sr → Prop
  | .nx σ S => I σ S
  | .ct σ S => I σ S
  | .bk σ S => Wp C ss σ S Q
  | r => Q r
theorem w_fr {ι : Type} {enc : ι → D} {tg : Tg} {x : List St} {as : List ι} {xs : List D} (Inv : List ι → Env → Sto → Prop) (hq : ev C e σ S = .ok p S1) (hi : p.items S1 = some xs) (hx : xs = as.map enc) (hl : p.lock S1 = none)
    (h0 : Inv [] σ S1) (hh : ∀ l σ S, Inv l σ S → heldOk (p.held S1) S = true)
    (step : ∀ pre a post σ S, as = pre ++ a :: post → Inv pre σ S → ∃ σ1, bindTg tg (enc a) σ = some σ1 ∧ Wp C x σ1 S (frSq C ss Q (Inv (pre ++ [a]))))
    (fin : ∀ σ S, Inv as σ S → Wp C ss σ S Q) : Wp C (.fr tg e x :: ss) σ S Q := by
  refine w_cons ?_
  have e1 : p.lockS S1 = S1 := by unfold Pv.lockS; rw [hl]
  rw [evS, hq, st_ok, hi]
  simp only [hl, e1]
  subst hx
  have un : ∀ r : Sr, r.unl none = r := fun r => by cases r <;> rfl
  rw [un]
  refine fr_run (Q := sq C ss Q) Inv [] (fun pre a post σ S ha h => ⟨hh pre σ S h, ?_⟩) (fun σ S h => ⟨hh _ σ S h, fin σ S h⟩) h0
  obtain ⟨σ1, hb, w⟩ := step pre a post σ S ha h
  simp only [hb]
  unfold Wp at w
  cases q : evSs C x σ1 S <;> rw [q] at w <;> exact w
/-- a while loop by a measure -/
theorem w_whl {x : List St} (Inv : Nat → Env → Sto → Prop) (hn : Q .no → False) (step : ∀ k σ S, Inv k σ S → ∃ t p S1, ev C e σ S = .ok p S1 ∧ p.truth S1 = some t ∧ (t = false → Wp C ss σ S1 Q) ∧ (t = true → Wp C x σ S1 (frSq C ss Q fun σ' S' => ∃ j, j < k ∧ Inv j σ' S')))
    {k : Nat} (h : Inv k σ S) : Wp C (.whl e x :: ss) σ S Q := by
  refine w_cons ?_
  rw [evS]
  have key : ∀ k σ S, Inv k σ S → ∃ n, (sq C ss Q (wlN (evt C e) (evSs C x) n σ S)) ∧ wlN (evt C e) (evSs C x) n σ S ≠ .no := by
    intro k
    induction k using Nat.strongRecOn with
    | ind k ih =>
      intro σ S hI
      obtain ⟨t, p, S1, h1, h2, h3, h4⟩ := step k σ S hI
      have q : evt C e σ S = .ok t S1 := by unfold evt; rw [h1, bind_ok, h2]
      cases t with
      | false =>
        refine ⟨1, ?_, ?_⟩
        · rw [wlN, q]; exact h3 rfl
        · rw [wlN, q]; exact fun z => by cases z
      | true =>
        have w := h4 rfl
        unfold Wp at w
        cases g : evSs C x σ S1 with
        | nx σ2 S2 =>
          rw [g] at w
          obtain ⟨j, hj, hI2⟩ := w
          obtain ⟨n, hn⟩ := ih j hj σ2 S2 hI2
          refine ⟨n + 1, ?_⟩
          rw [wlN, q]
          simp only [g]
          exact hn
        | ct σ2 S2 =>
          rw [g] at w
          obtain ⟨j, hj, hI2⟩ := w
          obtain ⟨n, hn⟩ := ih j hj σ2 S2 hI2
          refine ⟨n + 1, ?_⟩
          rw [wlN, q]
          simp only [g]
          exact hn
        | no =>
          rw [g] at w
          exact (hn w).elim
        | _ =>
          rw [g] at w
          refine ⟨1, ?_, ?_⟩
          · rw [wlN, q]; simp only [g]; exact w
          · rw [wlN, q]; simp only [g]; exact fun z => by cases z
  obtain ⟨n, h1, h2⟩ := key k σ S h
  rw [wl_of h2]; exact h1
end
section
variable {S : Sto} {a b : Nat}
theorem cm_eqN : cmP .eq S (.val (nD a)) (.val (nD b)) = some (decide (a = b)) := by rw [cm_eq]; congr 1; exact decide_eq_decide.mpr Int.ofNat_inj
theorem cm_neN : cmP .ne S (.val (nD a)) (.val (nD b)) = some (!decide (a = b)) := by rw [cm_ne]; congr 2; exact decide_eq_decide.mpr Int.ofNat_inj
theorem cm_ltN : cmP .lt S (.val (nD a)) (.val (nD b)) = some (decide (a < b)) := by rw [cm_lt]; congr 1; exact decide_eq_decide.mpr Int.ofNat_lt
theorem cm_gtN : cmP .gt S (.val (nD a)) (.val (nD b)) = some (decide (b < a)) := by rw [cm_gt]; congr 1; exact decide_eq_decide.mpr Int.ofNat_lt
theorem cm_leN : cmP .le S (.val (nD a)) (.val (nD b)) = some (decide (a ≤ b)) := by rw [cm_le]; congr 1; exact decide_eq_decide.mpr Int.ofNat_le
theorem cm_geN : cmP .ge S (.val (nD a)) (.val (nD b)) = some (decide (b ≤ a)) := by rw [cm_ge]; congr 1; exact decide_eq_decide.mpr Int.ofNat_le
theorem op_addN : opB .add S (.val (nD a)) (.val (nD b)) = .ok (.val (nD (a + b))) S := rfl
theorem op_modN (h : 0 < b) : opB .mod S (.val (nD a)) (.val (nD b)) = .ok (.val (nD (a % b))) S := by
  rw [op_modI (by omega)]; rfl
end
/-! ### calls, by what the body leads to -/
/-- the body hands back d, whatever it leaves -/
def RetD (d : D) : Sr → Prop := fun r => ∃ S1, r.fin = .ok d S1
/-- .. and leaves the store as it was, grown behind -/
def RetG (S : Sto) (d : D) : Sr → Prop := fun r => ∃ T, r.fin = .ok d (S ++ T)
theorem retD {d : D} {S : Sto} : RetD d (.rt d S) := ⟨S, rfl⟩
theorem retDn {σ : Env} {S : Sto} : RetD .non (.nx σ S) := ⟨S, rfl⟩
theorem retD_no {d : D} : RetD d .no → False := fun ⟨_, h⟩ => by cases h
section
variable {P : List Fn} {m k : Nat} {f : Fn} {as : List D} {S : Sto} {d : D}
theorem callO (hf : P[k]? = some f) (hm : f.mode = .own) (hn : as.length = f.np) (hp : D.plainL as = true) (hd : d.plain = true) (hr : Wp (callN P m) f.body (envOf f as) [] (RetD d)) : callN P (m + 1) k as S = .ok d S := call_own hf hm hn hp hd (wp_of hr)
theorem callG (hf : P[k]? = some f) (hm : f.mode = .gc) (hn : as.length = f.np) (hd : d.plain = true) (hr : Wp (callN P m) f.body (envOf f as) S (RetG S d)) : callN P (m + 1) k as S = .ok d S := call_gc hf hm hn hd (wp_of hr)
end
theorem at_up {C : Nat → Call} {n m : Nat} {k : Nat} {as : List D} {S : Sto} {r : Rs D} (h : ∀ m, C (m + n) k as S = r) (hm : n ≤ m) : C m k as S = r := by
  obtain ⟨j, rfl⟩ : ∃ j, m = j + n := ⟨m - n, by omega⟩
  exact h j
end Nog

set_option Elab.async false
set_option linter.all false
set_option maxRecDepth 100000
set_option maxHeartbeats 2000000
/-! books, standings, lots: plain -/
namespace Nog
structure Bk where
  cs : List (Nat × Nat)
  wk : List Nat
  deriving DecidableEq, Inhabited
abbrev bkD (b : Bk) : D := .tup [.tup (b.cs.map prD), .tup (b.wk.map nD)]
abbrev Sd := Nat × List Nat
namespace Bk
def n (b : Bk) : Nat := b.cs.length
def lo (b : Bk) (i : Nat) : Nat := (b.cs.getD i default).1
def hi (b : Bk) (i : Nat) : Nat := (b.cs.getD i default).2
def hand (b : Bk) (d : Nat) : Nat := b.wk.getD d default
end Bk
def age (s : Sd) (i : Nat) : Nat := s.2.getD i default
namespace Bk
def due (b : Bk) (s : Sd) : List Nat := (List.range b.n).filter fun i => decide (age s i = b.hi i)
def ready (b : Bk) (s : Sd) : List Nat := (List.range b.n).filter fun i => decide (b.lo i ≤ age s i)
/-- the lot is let -/
def letP (b : Bk) (s : Sd) (l : List Nat) : Bool := decide (l.length ≤ b.hand s.1) && l.all (fun i => decide (b.lo i ≤ age s i)) && (List.range b.n).all fun i => decide (age s i = b.hi i → i ∈ l)
def nxt (b : Bk) (s : Sd) (l : List Nat) : Sd := ((s.1 + 1) % b.wk.length, (List.range b.n).map fun i => if i ∈ l then 1 else age s i + 1)
end Bk
theorem good_bk (b : Bk) : (bkD b).good 4 := good_tup (goodL_cons (good_tup (goodL_map fun a _ => good_tup (goodL_cons (good_int _) (goodL_cons (good_int _) goodL_nil)))) (goodL_cons (good_tup (goodL_map fun a _ => good_int _)) goodL_nil))
theorem plain_bs (b : Bk) (s : Sd) : D.plainL [bkD b, stD s] = true := (goodL_cons (good_bk b) (goodL_cons (good_st s (k := 2)) goodL_nil)).1
end Nog

set_option Elab.async false
set_option linter.all false
set_option maxRecDepth 100000
set_option maxHeartbeats 2000000
/-! lots: plain -/
namespace Nog
/-- two rows in strict order with the same members are one -/
theorem ext_pw {α : Type} {r : α → α → Prop} (as : ∀ a b, r a b → r b a → False) : ∀ {l m : List α}, l.Pairwise r → m.Pairwise r → (∀ x, x ∈ l ↔ x ∈ m) → l = m
  | [], [], _, _, _ => rfl
  | [], b :: m, _, _, h => by have := (h b).mpr List.mem_cons_self; cases this
  | a :: l, [], _, _, h => by have := (h a).mp List.mem_cons_self; cases this
  | a :: l, b :: m, h1, h2, h => by
    rw [List.pairwise_cons] at h1 h2
    have e : a = b := by
      rcases List.mem_cons.mp ((h a).mp List.mem_cons_self) with e | e
      · exact e
      · rcases List.mem_cons.mp ((h b).mpr List.mem_cons_self) with e' | e'
        · exact e'.symm
        · exact (as _ _ (h1.1 b e') (h2.1 a e)).elim
    subst e
    rw [ext_pw as h1.2 h2.2 fun x => ?_]
    refine ⟨fun hx => ?_, fun hx => ?_⟩
    · rcases List.mem_cons.mp ((h x).mp (List.mem_cons_of_mem _ hx)) with e | e
      · subst e; exact (as _ _ (h1.1 _ hx) (h1.1 _ hx)).elim
      · exact e
    · rcases List.mem_cons.mp ((h x).mpr (List.mem_cons_of_mem _ hx)) with e | e
      · subst e; exact (as _ _ (h2.1 _ hx) (h2.1 _ hx)).elim
      · exact e
abbrev Asc (l : List Nat) : Prop := l.Pairwise (· < ·)
theorem asc_ext {l m : List Nat} (h1 : Asc l) (h2 : Asc m) (h : ∀ x, x ∈ l ↔ x ∈ m) : l = m := ext_pw (fun a b h h' => by omega) h1 h2 h
theorem Asc.nodup {l : List Nat} (h : Asc l) : l.Nodup := List.Pairwise.imp (fun h e => by omega) h
theorem asc_range (n : Nat) : Asc (List.range n) := List.pairwise_lt_range
theorem asc_filter {l : List Nat} (h : Asc l) (p : Nat → Bool) : Asc (l.filter p) := h.filter p
/-! ### sorting -/
abbrev srt (l : List Nat) : List Nat := l.mergeSort fun a b => decide (a ≤ b)
theorem srt_perm (l : List Nat) : (srt l).Perm l := List.mergeSort_perm ..
theorem srt_le (l : List Nat) : (srt l).Pairwise (· ≤ ·) := by
  have := List.pairwise_mergeSort (le := fun a b : Nat => decide (a ≤ b)) (fun a b c h1 h2 => by simp at *; omega) (fun a b => by simp; omega) l
  simpa using this
theorem srt_asc {l : List Nat} (h : l.Nodup) : Asc (srt l) := by
  have h1 := srt_le l
  have h2 : (srt l).Nodup := (srt_perm l).nodup_iff.mpr h
  exact List.Pairwise.imp (fun ⟨a, b⟩ => by omega) (h1.and h2)
theorem mem_srt {l : List Nat} {x : Nat} : x ∈ srt l ↔ x ∈ l := (srt_perm l).mem_iff
theorem ltbL_nat : ∀ a b : List Nat, D.ltbL (a.map nD) (b.map nD) = decide (a < b)
  | _, [] => by simp [D.ltbL]
  | [], b :: bs => by simp [D.ltbL]
  | a :: as, b :: bs => by
    rw [List.map_cons, List.map_cons, D.ltbL, ltbL_nat as bs]
    simp only [D.eqb, D.ltb]
    by_cases h : a = b
    · simp [h, List.cons_lt_cons_iff]
    · have h' : ¬ ((a : Int) = (b : Int)) := by omega
      simp [h, h', List.cons_lt_cons_iff]
theorem sort_nat (l : List Nat) : sortD (l.map nD) = (srt l).map nD := by
  unfold sortD
  rw [← List.map_mergeSort (r := fun a b => decide (a ≤ b)) (s := fun a b => !D.ltb b a)]
  intro a _ b _
  simp only [D.ltb]
  by_cases h : a ≤ b
  · have : ¬ ((b : Int) < (a : Int)) := by omega
    simp [h, this]
  · have : ((b : Int) < (a : Int)) := by omega
    simp [h, this]
abbrev srtL (l : List (List Nat)) : List (List Nat) := l.mergeSort fun a b => !decide (b < a)
theorem sort_lots (l : List (List Nat)) : sortD (l.map lotD) = (srtL l).map lotD := by
  unfold sortD
  rw [← List.map_mergeSort (r := fun a b => !decide (b < a)) (s := fun a b => !D.ltb b a)]
  intro a _ b _
  simp only [D.ltb, ltbL_nat]
theorem lex_le_of {a b : List Nat} : (!decide (b < a)) = true ↔ a ≤ b := by
  rw [Bool.not_eq_true', decide_eq_false_iff_not]; exact List.not_lt
theorem srtL_perm (l : List (List Nat)) : (srtL l).Perm l := List.mergeSort_perm ..
theorem lex_tri {a b : List Nat} (h : a ≤ b) (hn : a ≠ b) : a < b := by
  rcases Classical.em (a < b) with q | q
  · exact q
  · exact (hn (List.le_antisymm h (List.not_lt.mp q))).elim
theorem srtL_lt {l : List (List Nat)} (h : l.Nodup) : (srtL l).Pairwise (· < ·) := by
  have h1 := List.pairwise_mergeSort (le := fun a b : List Nat => !decide (b < a)) (fun a b c h1 h2 => lex_le_of.mpr (List.le_trans (lex_le_of.mp h1) (lex_le_of.mp h2))) (fun a b => by
    rcases List.le_total a b with q | q
    · rw [lex_le_of.mpr q]; rfl
    · rw [lex_le_of.mpr q, Bool.or_true]) l
  have h2 : (srtL l).Nodup := (srtL_perm l).nodup_iff.mpr h
  exact List.Pairwise.imp (fun ⟨a, b⟩ => lex_tri (lex_le_of.mp a) b) (h1.and h2)
theorem lex_ext {l m : List (List Nat)} (h1 : l.Pairwise (· < ·)) (h2 : m.Pairwise (· < ·)) (h : ∀ x, x ∈ l ↔ x ∈ m) : l = m := ext_pw (fun a b h h' => List.lt_asymm h h') h1 h2 h
/-! ### all lots -/
def lotsF : Nat → Nat → List (List Nat)
  | 0, _ => [[]]
  | k + 1, i => [] :: ((lotsF k (i + 1)).map (i :: ·) ++ (lotsF k (i + 1)).tail)
theorem lotsF_head (k i : Nat) : lotsF k i = [] :: (lotsF k i).tail := by cases k <;> rfl
theorem mem_lotsF : ∀ {k i : Nat} {l : List Nat}, l ∈ lotsF k i ↔ Asc l ∧ ∀ x ∈ l, i ≤ x ∧ x < i + k
  | 0, i, l => by
    rw [lotsF, List.mem_singleton]
    constructor
    · rintro rfl; exact ⟨.nil, fun x h => by cases h⟩
    · rintro ⟨_, h⟩
      cases l with
      | nil => rfl
      | cons a l => have := h a List.mem_cons_self; omega
  | k + 1, i, l => by
    have hs := lotsF_head k (i + 1)
    have tl : ∀ m, m ∈ (lotsF k (i + 1)).tail → m ∈ lotsF k (i + 1) := fun m h => List.mem_of_mem_tail h
    have tl2 : ∀ m, m ∈ lotsF k (i + 1) → m ≠ [] → m ∈ (lotsF k (i + 1)).tail := fun m h hn => by
      rw [hs] at h
      exact (List.mem_cons.mp h).resolve_left hn
    rw [lotsF, List.mem_cons, List.mem_append, List.mem_map]
    constructor
    · rintro (rfl | ⟨m, h, rfl⟩ | h)
      · exact ⟨.nil, fun x h => by cases h⟩
      · obtain ⟨h1, h2⟩ := mem_lotsF.mp h
        refine ⟨List.pairwise_cons.mpr ⟨fun x hx => by have := h2 x hx; omega, h1⟩, fun x hx => ?_⟩
        rcases List.mem_cons.mp hx with rfl | hx
        · omega
        · have := h2 x hx; omega
      · obtain ⟨h1, h2⟩ := mem_lotsF.mp (tl _ h)
        exact ⟨h1, fun x hx => by have := h2 x hx; omega⟩
    · rintro ⟨h1, h2⟩
      cases l with
      | nil => exact .inl rfl
      | cons a l =>
        have h1 := List.pairwise_cons.mp h1
        by_cases e : a = i
        · subst e
          exact .inr (.inl ⟨l, mem_lotsF.mpr ⟨h1.2, fun x hx => by have := h1.1 x hx; have := h2 x (List.mem_cons_of_mem _ hx); omega⟩, rfl⟩)
        · refine .inr (.inr (tl2 _ (mem_lotsF.mpr ⟨List.pairwise_cons.mpr h1, fun x hx => ?_⟩) (by simp)))
          have g := h2 a List.mem_cons_self
          rcases List.mem_cons.mp hx with rfl | hx
          · omega
          · have := h1.1 x hx; have := h2 x (List.mem_cons_of_mem _ hx); omega
theorem lotsF_lt : ∀ {k i : Nat}, (lotsF k i).Pairwise (· < ·)
  | 0, i => List.pairwise_singleton ..
  | k + 1, i => by
    have ih := lotsF_lt (k := k) (i := i + 1)
    have hs := lotsF_head k (i + 1)
    have ne : ∀ m, m ∈ (lotsF k (i + 1)).tail → m ≠ [] := fun m h e => by
      subst e
      rw [hs, List.pairwise_cons] at ih
      exact List.lt_irrefl _ (ih.1 [] h)
    rw [lotsF, List.pairwise_cons, List.pairwise_append]
    refine ⟨fun m h => ?_, ?_, ?_, fun a ha b hb => ?_⟩
    · rcases List.mem_append.mp h with h | h
      · obtain ⟨m', _, rfl⟩ := List.mem_map.mp h
        exact List.nil_lt_cons ..
      · cases m with
        | nil => exact (ne _ h rfl).elim
        | cons a m => exact List.nil_lt_cons ..
    · rw [List.pairwise_map]
      exact ih.imp fun h => List.cons_lt_cons_iff.mpr (.inr ⟨rfl, h⟩)
    · rw [hs, List.pairwise_cons] at ih
      exact ih.2
    · obtain ⟨m', _, rfl⟩ := List.mem_map.mp ha
      cases b with
      | nil => exact (ne _ hb rfl).elim
      | cons c b =>
        have := (mem_lotsF.mp (List.mem_of_mem_tail hb)).2 c List.mem_cons_self
        exact List.cons_lt_cons_iff.mpr (.inl (by omega))
def allLots (n : Nat) : List (List Nat) := lotsF n 0
theorem mem_allLots {n : Nat} {l : List Nat} : l ∈ allLots n ↔ Asc l ∧ ∀ x ∈ l, x < n := by
  unfold allLots
  rw [mem_lotsF]
  simp
theorem allLots_lt (n : Nat) : (allLots n).Pairwise (· < ·) := lotsF_lt
theorem allLots_nodup (n : Nat) : (allLots n).Nodup := List.Pairwise.imp (fun h e => by subst e; exact List.lt_irrefl _ h) (allLots_lt n)
theorem lots_len (k i : Nat) : (lotsF k i).length = 2 ^ k := by
  induction k generalizing i with
  | zero => rfl
  | succ k ih =>
    have := ih (i + 1)
    have h2 : 0 < 2 ^ k := Nat.two_pow_pos k
    simp only [lotsF, List.length_cons, List.length_append, List.length_map, List.length_tail, this, Nat.pow_succ]
    omega
/-! ### the lots between two -/
def btwStep (hands : Nat) (must : List Nat) (found : List (List Nat)) (c : Nat) : List (List Nat) :=
  if c ∈ must then found else found ++ (found.filter fun l => decide (l.length < hands)).map fun l => srt (l ++ [c])
def btwL (must ready : List Nat) (hands : Nat) : List (List Nat) := if hands < must.length then [] else srtL (ready.foldl (btwStep hands must) [must])
structure BtwI (must R : List Nat) (hands : Nat) (found : List (List Nat)) : Prop where
  nd : found.Nodup
  mem : ∀ l, l ∈ found ↔ Asc l ∧ (∀ x ∈ must, x ∈ l) ∧ (∀ x ∈ l, x ∈ must ∨ x ∈ R) ∧ l.length ≤ hands
theorem erase_len {l : List Nat} {c : Nat} (h : c ∈ l) : (l.erase c).length + 1 = l.length := by
  have := List.length_erase_of_mem h
  have : 0 < l.length := List.length_pos_of_mem h
  omega
theorem btw_step {must R : List Nat} {hands c : Nat} {found : List (List Nat)} (i : BtwI must R hands found) (hc : c ∉ R) : BtwI must (R ++ [c]) hands (btwStep hands must found c) := by
  unfold btwStep
  by_cases hm : c ∈ must
  · rw [if_pos hm]
    refine ⟨i.nd, fun l => (i.mem l).trans ⟨fun ⟨h1, h2, h3, h4⟩ => ⟨h1, h2, fun x hx => (h3 x hx).imp id (fun h => List.mem_append_left _ h), h4⟩, fun ⟨h1, h2, h3, h4⟩ => ⟨h1, h2, fun x hx => ?_, h4⟩⟩⟩
    rcases h3 x hx with h | h
    · exact .inl h
    · rcases List.mem_append.mp h with h | h
      · exact .inr h
      · rw [List.mem_singleton.mp h]; exact .inl hm
  · rw [if_neg hm]
    have notin : ∀ l ∈ found, c ∉ l := fun l hl hx => ((i.mem l).mp hl).2.2.1 c hx |>.elim hm hc
    have snd : ∀ l ∈ found, (l ++ [c]).Nodup := fun l hl => by
      rw [List.nodup_append]
      exact ⟨((i.mem l).mp hl).1.nodup, by simp, fun a ha b hb e => by rw [List.mem_singleton.mp hb] at e; subst e; exact notin l hl ha⟩
    have ms : ∀ l x, x ∈ srt (l ++ [c]) ↔ x ∈ l ∨ x = c := fun l x => by rw [mem_srt, List.mem_append, List.mem_singleton]
    refine ⟨?_, fun l => ?_⟩
    · rw [List.nodup_append]
      refine ⟨i.nd, ?_, fun a ha b hb e => ?_⟩
      · rw [List.Nodup, List.pairwise_map, List.pairwise_filter]
        refine List.Pairwise.imp_of_mem (R := (· ≠ ·)) (fun {a b} ha hb h _ _ e => h ?_) i.nd
        refine asc_ext ((i.mem a).mp ha).1 ((i.mem b).mp hb).1 fun x => ?_
        have e1 := ms a x
        have e2 := ms b x
        rw [e] at e1
        constructor
        · intro hx
          rcases e2.mp (e1.mpr (.inl hx)) with h | h
          · exact h
          · subst h; exact (notin a ha hx).elim
        · intro hx
          rcases e1.mp (e2.mpr (.inl hx)) with h | h
          · exact h
          · subst h; exact (notin b hb hx).elim
      · obtain ⟨l, hl, rfl⟩ := List.mem_map.mp hb
        subst e
        exact notin _ ha ((ms l c).mpr (.inr rfl))
    · rw [List.mem_append, List.mem_map]
      constructor
      · rintro (h | ⟨l0, h, rfl⟩)
        · obtain ⟨h1, h2, h3, h4⟩ := (i.mem l).mp h
          exact ⟨h1, h2, fun x hx => (h3 x hx).imp id (fun h => List.mem_append_left _ h), h4⟩
        · obtain ⟨h0, h5⟩ := List.mem_filter.mp h
          obtain ⟨h1, h2, h3, h4⟩ := (i.mem l0).mp h0
          refine ⟨srt_asc (snd l0 h0), fun x hx => (ms l0 x).mpr (.inl (h2 x hx)), fun x hx => ?_, ?_⟩
          · rcases (ms l0 x).mp hx with h | h
            · exact (h3 x h).imp id (fun h => List.mem_append_left _ h)
            · subst h; exact .inr (List.mem_append_right _ List.mem_cons_self)
          · rw [(srt_perm _).length_eq, List.length_append]
            exact of_decide_eq_true h5
      · rintro ⟨h1, h2, h3, h4⟩
        by_cases hx : c ∈ l
        · refine .inr ⟨l.erase c, List.mem_filter.mpr ⟨(i.mem _).mpr ⟨h1.erase c, fun x hx' => ?_, fun x hx' => ?_, ?_⟩, ?_⟩, ?_⟩
          · exact (List.mem_erase_of_ne (fun e => by subst e; exact hm hx')).mpr (h2 x hx')
          · have hne : x ≠ c := fun e => by subst e; exact (h1.nodup.not_mem_erase) hx'
            rcases h3 x (List.mem_of_mem_erase hx') with h | h
            · exact .inl h
            · rcases List.mem_append.mp h with h | h
              · exact .inr h
              · exact (hne (List.mem_singleton.mp h)).elim
          · have := erase_len hx; omega
          · have := erase_len hx; exact decide_eq_true (by omega)
          · have nd2 : (l.erase c ++ [c]).Nodup := by
              rw [List.nodup_append]
              exact ⟨Asc.nodup (h1.erase c), by simp, fun a ha b hb e => by rw [List.mem_singleton.mp hb] at e; subst e; exact h1.nodup.not_mem_erase ha⟩
            refine asc_ext (srt_asc nd2) h1 fun x => ?_
            rw [ms]
            constructor
            · rintro (h | rfl)
              · exact List.mem_of_mem_erase h
              · exact hx
            · intro h
              by_cases e : x = c
              · exact .inr e
              · exact .inl ((List.mem_erase_of_ne e).mpr h)
        · refine .inl ((i.mem l).mpr ⟨h1, h2, fun x hx' => ?_, h4⟩)
          rcases h3 x hx' with h | h
          · exact .inl h
          · rcases List.mem_append.mp h with h | h
            · exact .inr h
            · exact (hx (List.mem_singleton.mp h ▸ hx')).elim
theorem btw_fold {must : List Nat} {hands : Nat} : ∀ {R S : List Nat} {found : List (List Nat)}, BtwI must R hands found → (R ++ S).Nodup → BtwI must (R ++ S) hands (S.foldl (btwStep hands must) found)
  | R, [], found, i, _ => by rw [List.append_nil]; exact i
  | R, c :: S, found, i, h => by
    have e : R ++ c :: S = (R ++ [c]) ++ S := by simp
    have hc : c ∉ R := fun hx => by
      rw [List.nodup_append] at h
      exact h.2.2 c hx c List.mem_cons_self rfl
    rw [e, List.foldl_cons]
    exact btw_fold (btw_step i hc) (e ▸ h)
theorem btwI0 {must : List Nat} {hands : Nat} (h : Asc must) (hl : must.length ≤ hands) : BtwI must [] hands [must] := by
  refine ⟨by simp, fun l => ?_⟩
  rw [List.mem_singleton]
  constructor
  · rintro rfl; exact ⟨h, fun _ h => h, fun _ h => .inl h, hl⟩
  · rintro ⟨h1, h2, h3, _⟩
    exact asc_ext h1 h fun x => ⟨fun hx => (h3 x hx).elim id (fun h => by cases h), h2 x⟩
theorem btw_mem {must ready : List Nat} {hands : Nat} (h : Asc must) (hr : ready.Nodup) {l : List Nat} : l ∈ btwL must ready hands ↔ Asc l ∧ (∀ x ∈ must, x ∈ l) ∧ (∀ x ∈ l, x ∈ must ∨ x ∈ ready) ∧ l.length ≤ hands := by
  unfold btwL
  by_cases hl : hands < must.length
  · rw [if_pos hl]
    refine ⟨fun h => (by cases h), fun ⟨h1, h2, h3, h4⟩ => ?_⟩
    have : must.length ≤ l.length := by
      have := List.Nodup.length_le_of_subset (l₁ := must) (l₂ := l) h.nodup fun x hx => h2 x hx
      exact this
    omega
  · rw [if_neg hl, (srtL_perm _).mem_iff]
    have := (btw_fold (btwI0 h (Nat.not_lt.mp hl)) (R := []) (S := ready) (by simpa using hr)).mem l
    simpa using this
theorem btw_lt {must ready : List Nat} {hands : Nat} (h : Asc must) (hr : ready.Nodup) : (btwL must ready hands).Pairwise (· < ·) := by
  unfold btwL
  by_cases hl : hands < must.length
  · rw [if_pos hl]; exact .nil
  · rw [if_neg hl]
    exact srtL_lt (btw_fold (btwI0 h (Nat.not_lt.mp hl)) (R := []) (S := ready) (by simpa using hr)).nd
end Nog

set_option Elab.async false
set_option linter.all false
set_option maxRecDepth 100000
set_option maxHeartbeats 2000000
/-! lots by codes, lots that are let, standings: plain -/
namespace Nog
def codeLot (n code : Nat) : List Nat := (List.range n).filter fun i => code.testBit i
theorem code_ex (p : Nat → Bool) : ∀ n, ∃ c, c < 2 ^ n ∧ ∀ i, i < n → c.testBit i = p i
  | 0 => ⟨0, by simp, fun i h => by omega⟩
  | n + 1 => by
    obtain ⟨c, h1, h2⟩ := code_ex p n
    have h3 : 2 ^ (n + 1) = 2 ^ n + 2 ^ n := by rw [Nat.pow_succ]; omega
    cases hp : p n with
    | false =>
      refine ⟨c, by omega, fun i hi => ?_⟩
      by_cases e : i = n
      · subst e; rw [hp]; exact Nat.testBit_lt_two_pow h1
      · exact h2 i (by omega)
    | true =>
      refine ⟨2 ^ n + c, by omega, fun i hi => ?_⟩
      by_cases e : i = n
      · subst e
        rw [hp, Nat.testBit_two_pow_add_eq, Nat.testBit_lt_two_pow h1]; rfl
      · rw [Nat.testBit_two_pow_add_gt (by omega)]; exact h2 i (by omega)
theorem mem_codeLot {n c i : Nat} : i ∈ codeLot n c ↔ i < n ∧ c.testBit i = true := by
  unfold codeLot
  rw [List.mem_filter, List.mem_range]
theorem codes_nodup (n : Nat) : ((List.range (2 ^ n)).map (codeLot n)).Nodup := by
  rw [List.Nodup, List.pairwise_map]
  refine List.Pairwise.imp_of_mem (R := (· < ·)) (fun {a b} ha hb h e => ?_) List.pairwise_lt_range
  have h1 := List.mem_range.mp ha
  have h2 := List.mem_range.mp hb
  refine absurd (Nat.eq_of_testBit_eq fun i => ?_) (Nat.ne_of_lt h)
  by_cases hi : i < n
  · have := (mem_codeLot (n := n) (c := a) (i := i))
    rw [e, mem_codeLot] at this
    cases q : a.testBit i <;> cases q' : b.testBit i <;> simp_all
  · have l1 : a < 2 ^ i := Nat.lt_of_lt_of_le h1 (Nat.pow_le_pow_right (by decide) (by omega))
    have l2 : b < 2 ^ i := Nat.lt_of_lt_of_le h2 (Nat.pow_le_pow_right (by decide) (by omega))
    rw [Nat.testBit_lt_two_pow l1, Nat.testBit_lt_two_pow l2]
theorem codes_all (n : Nat) : srtL ((List.range (2 ^ n)).map (codeLot n)) = allLots n := by
  refine lex_ext (srtL_lt (codes_nodup n)) (allLots_lt n) fun l => ?_
  rw [(srtL_perm _).mem_iff, mem_allLots, List.mem_map]
  constructor
  · rintro ⟨c, _, rfl⟩
    exact ⟨asc_filter (asc_range n) _, fun x hx => (mem_codeLot.mp hx).1⟩
  · rintro ⟨h1, h2⟩
    obtain ⟨c, hc, h⟩ := code_ex (fun i => decide (i ∈ l)) n
    refine ⟨c, List.mem_range.mpr hc, asc_ext (asc_filter (asc_range n) _) h1 fun x => ?_⟩
    rw [mem_codeLot]
    constructor
    · rintro ⟨hx, ht⟩
      rw [h x hx] at ht
      exact of_decide_eq_true ht
    · intro hx
      exact ⟨h2 x hx, by rw [h x (h2 x hx)]; exact decide_eq_true hx⟩
/-- a book's numbers hang together -/
structure Bk.Ok (b : Bk) : Prop where
  lohi : ∀ i, i < b.n → 1 ≤ b.lo i ∧ b.lo i ≤ b.hi i
  wk : 0 < b.wk.length
def Bk.lets (b : Bk) (s : Sd) : List (List Nat) := (allLots b.n).filter (b.letP s)
theorem Bk.letP_iff {b : Bk} {s : Sd} {l : List Nat} : b.letP s l = true ↔ l.length ≤ b.hand s.1 ∧ (∀ i ∈ l, b.lo i ≤ age s i) ∧ ∀ i, i < b.n → age s i = b.hi i → i ∈ l := by
  unfold Bk.letP
  simp only [Bool.and_eq_true, decide_eq_true_eq, List.all_eq_true, List.mem_range]
  constructor
  · rintro ⟨⟨h1, h2⟩, h3⟩; exact ⟨h1, h2, h3⟩
  · rintro ⟨h1, h2, h3⟩; exact ⟨⟨h1, h2⟩, h3⟩
theorem Bk.mem_lets {b : Bk} {s : Sd} {l : List Nat} : l ∈ b.lets s ↔ Asc l ∧ (∀ x ∈ l, x < b.n) ∧ l.length ≤ b.hand s.1 ∧ (∀ i ∈ l, b.lo i ≤ age s i) ∧ ∀ i, i < b.n → age s i = b.hi i → i ∈ l := by
  unfold Bk.lets
  rw [List.mem_filter, mem_allLots, Bk.letP_iff]
  constructor
  · rintro ⟨⟨h1, h2⟩, h3⟩; exact ⟨h1, h2, h3⟩
  · rintro ⟨h1, h2, h3⟩; exact ⟨⟨h1, h2⟩, h3⟩
theorem Bk.lets_lt (b : Bk) (s : Sd) : (b.lets s).Pairwise (· < ·) := (allLots_lt _).filter _
theorem Bk.lets_nodup (b : Bk) (s : Sd) : (b.lets s).Nodup := List.Pairwise.imp (fun h e => by subst e; exact List.lt_irrefl _ h) (b.lets_lt s)
theorem Bk.mem_due {b : Bk} {s : Sd} {i : Nat} : i ∈ b.due s ↔ i < b.n ∧ age s i = b.hi i := by
  unfold Bk.due
  rw [List.mem_filter, List.mem_range, decide_eq_true_eq]
theorem Bk.mem_ready {b : Bk} {s : Sd} {i : Nat} : i ∈ b.ready s ↔ i < b.n ∧ b.lo i ≤ age s i := by
  unfold Bk.ready
  rw [List.mem_filter, List.mem_range, decide_eq_true_eq]
theorem Bk.asc_due (b : Bk) (s : Sd) : Asc (b.due s) := asc_filter (asc_range _) _
theorem Bk.asc_ready (b : Bk) (s : Sd) : Asc (b.ready s) := asc_filter (asc_range _) _
theorem Bk.btw_lets {b : Bk} (ok : b.Ok) (s : Sd) : btwL (b.due s) (b.ready s) (b.hand s.1) = b.lets s := by
  refine lex_ext (btw_lt (b.asc_due s) (b.asc_ready s).nodup) (b.lets_lt s) fun l => ?_
  rw [btw_mem (b.asc_due s) (b.asc_ready s).nodup, Bk.mem_lets]
  constructor
  · rintro ⟨h1, h2, h3, h4⟩
    have h5 : ∀ x ∈ l, x < b.n ∧ b.lo x ≤ age s x := fun x hx => by
      rcases h3 x hx with h | h
      · obtain ⟨g1, g2⟩ := Bk.mem_due.mp h
        exact ⟨g1, by rw [g2]; exact (ok.lohi x g1).2⟩
      · exact Bk.mem_ready.mp h
    exact ⟨h1, fun x hx => (h5 x hx).1, h4, fun x hx => (h5 x hx).2, fun i hi e => h2 i (Bk.mem_due.mpr ⟨hi, e⟩)⟩
  · rintro ⟨h1, h2, h3, h4, h5⟩
    exact ⟨h1, fun x hx => h5 x (Bk.mem_due.mp hx).1 (Bk.mem_due.mp hx).2, fun x hx => .inr (Bk.mem_ready.mpr ⟨h2 x hx, h4 x hx⟩), h3⟩
/-! ### standings -/
def rowsL (cs : List (Nat × Nat)) : List (List Nat) := cs.foldl (fun rows c => rows.flatMap fun r => (List.range c.2).map fun a => r ++ [a + 1]) [[]]
def Bk.stds (b : Bk) : List Sd := (List.range b.wk.length).flatMap fun d => (rowsL b.cs).map fun r => (d, r)
/-- a standing, or one with late chores (by k at most) -/
def Bk.stOk (b : Bk) (k : Nat) (s : Sd) : Prop := s.1 < b.wk.length ∧ s.2.length = b.n ∧ ∀ i, i < b.n → 1 ≤ age s i ∧ age s i ≤ b.hi i + k
theorem rows_app (cs : List (Nat × Nat)) (c : Nat × Nat) : rowsL (cs ++ [c]) = (rowsL cs).flatMap fun r => (List.range c.2).map fun a => r ++ [a + 1] := by
  unfold rowsL
  rw [List.foldl_append]; rfl
theorem mem_rows : ∀ (n : Nat) (cs : List (Nat × Nat)), cs.length = n → ∀ r : List Nat, r ∈ rowsL cs ↔ r.length = cs.length ∧ ∀ i, i < cs.length → 1 ≤ r.getD i default ∧ r.getD i default ≤ (cs.getD i default).2
  | 0, cs, h, r => by
    have : cs = [] := List.length_eq_zero_iff.mp h
    subst this
    simp [rowsL]
  | n + 1, cs, h, r => by
    have hne : cs ≠ [] := fun e => by subst e; simp at h
    obtain ⟨cs', c, rfl⟩ : ∃ cs' c, cs = cs' ++ [c] := ⟨cs.dropLast, cs.getLast hne, (List.dropLast_concat_getLast hne).symm⟩
    have hl : cs'.length = n := by simp at h; exact h
    rw [rows_app, List.mem_flatMap]
    have gl : ∀ i, i < cs'.length → (cs' ++ [c]).getD i default = cs'.getD i default := fun i hi => by
      simp only [List.getD_eq_getElem?_getD, List.getElem?_append_left hi]
    have gr : (cs' ++ [c]).getD cs'.length default = c := by simp [List.getD_eq_getElem?_getD]
    constructor
    · rintro ⟨r', h1, h2⟩
      obtain ⟨a, ha, rfl⟩ := List.mem_map.mp h2
      obtain ⟨h3, h4⟩ := (mem_rows n cs' hl r').mp h1
      refine ⟨by simp [h3], fun i hi => ?_⟩
      by_cases hi' : i < cs'.length
      · have e : (r' ++ [a + 1]).getD i default = r'.getD i default := by simp only [List.getD_eq_getElem?_getD, List.getElem?_append_left (show i < r'.length by omega)]
        rw [e, gl i hi']
        exact h4 i hi'
      · have e : i = cs'.length := by simp at hi; omega
        subst e
        have e : (r' ++ [a + 1]).getD cs'.length default = a + 1 := by rw [← h3]; simp [List.getD_eq_getElem?_getD]
        rw [e, gr]
        have := List.mem_range.mp ha
        omega
    · rintro ⟨h1, h2⟩
      have hr : r ≠ [] := fun e => by subst e; simp at h1
      obtain ⟨r', a, rfl⟩ : ∃ r' a, r = r' ++ [a] := ⟨r.dropLast, r.getLast hr, (List.dropLast_concat_getLast hr).symm⟩
      have hl2 : r'.length = cs'.length := by simpa using h1
      have ga : (r' ++ [a]).getD cs'.length default = a := by rw [← hl2]; simp [List.getD_eq_getElem?_getD]
      have q := h2 cs'.length (by simp)
      rw [ga, gr] at q
      refine ⟨r', (mem_rows n cs' hl r').mpr ⟨hl2, fun i hi => ?_⟩, List.mem_map.mpr ⟨a - 1, List.mem_range.mpr (by omega), by rw [Nat.sub_add_cancel q.1]⟩⟩
      have q := h2 i (by simp; omega)
      have e : (r' ++ [a]).getD i default = r'.getD i default := by simp only [List.getD_eq_getElem?_getD, List.getElem?_append_left (show i < r'.length by omega)]
      rw [e, gl i hi] at q
      exact q
theorem rows_nodup : ∀ (n : Nat) (cs : List (Nat × Nat)), cs.length = n → (rowsL cs).Nodup
  | 0, cs, h => by
    have : cs = [] := List.length_eq_zero_iff.mp h
    subst this
    simp [rowsL]
  | n + 1, cs, h => by
    have hne : cs ≠ [] := fun e => by subst e; simp at h
    obtain ⟨cs', c, rfl⟩ : ∃ cs' c, cs = cs' ++ [c] := ⟨cs.dropLast, cs.getLast hne, (List.dropLast_concat_getLast hne).symm⟩
    have hl : cs'.length = n := by simp at h; exact h
    rw [rows_app, List.Nodup, List.pairwise_flatMap]
    refine ⟨fun r hr => ?_, ?_⟩
    · rw [List.pairwise_map]
      exact List.Pairwise.imp (fun h e => by simp at e; omega) List.pairwise_lt_range
    · refine List.Pairwise.imp (R := (· ≠ ·)) (fun {a b} h x hx y hy e => ?_) (rows_nodup n cs' hl)
      obtain ⟨_, _, rfl⟩ := List.mem_map.mp hx
      obtain ⟨_, _, rfl⟩ := List.mem_map.mp hy
      exact h (List.append_inj_left' e rfl)
theorem Bk.mem_stds {b : Bk} {s : Sd} : s ∈ b.stds ↔ b.stOk 0 s := by
  unfold Bk.stds Bk.stOk
  rw [List.mem_flatMap]
  constructor
  · rintro ⟨d, hd, h⟩
    obtain ⟨r, hr, rfl⟩ := List.mem_map.mp h
    obtain ⟨h1, h2⟩ := (mem_rows _ b.cs rfl r).mp hr
    exact ⟨List.mem_range.mp hd, h1, h2⟩
  · rintro ⟨h1, h2, h3⟩
    exact ⟨s.1, List.mem_range.mpr h1, List.mem_map.mpr ⟨s.2, (mem_rows _ b.cs rfl s.2).mpr ⟨h2, h3⟩, rfl⟩⟩
theorem Bk.stds_nodup (b : Bk) : b.stds.Nodup := by
  unfold Bk.stds
  rw [List.Nodup, List.pairwise_flatMap]
  refine ⟨fun d _ => ?_, ?_⟩
  · rw [List.pairwise_map]
    exact List.Pairwise.imp (fun h e => h (Prod.mk.inj e).2) (rows_nodup _ b.cs rfl)
  · refine List.Pairwise.imp (fun {a b} h x hx y hy e => ?_) List.pairwise_lt_range
    obtain ⟨_, _, rfl⟩ := List.mem_map.mp hx
    obtain ⟨_, _, rfl⟩ := List.mem_map.mp hy
    have := (Prod.mk.inj e).1
    omega
theorem age_map {f : Nat → Nat} {d n i : Nat} (h : i < n) : age (d, (List.range n).map f) i = f i := by
  unfold age
  simp only [List.getD_eq_getElem?_getD, List.getElem?_map, List.getElem?_range h, Option.map_some, Option.getD_some]
theorem Bk.nxt_ok {b : Bk} (ok : b.Ok) {s : Sd} {l : List Nat} (hs : b.stOk 0 s) (hl : l ∈ b.lets s) : b.stOk 0 (b.nxt s l) := by
  obtain ⟨h1, h2, h3⟩ := hs
  obtain ⟨_, _, _, _, g⟩ := Bk.mem_lets.mp hl
  refine ⟨Nat.mod_lt _ ok.wk, by simp [Bk.nxt], fun i hi => ?_⟩
  unfold Bk.nxt
  rw [age_map hi]
  have := h3 i hi
  have := ok.lohi i hi
  split
  · omega
  · rename_i hn
    have : age s i ≠ b.hi i := fun e => hn (g i hi e)
    omega
/-- the steps of a standing -/
def Bk.web (b : Bk) (s : Sd) : List (List Nat × Sd) := (b.lets s).map fun l => (l, b.nxt s l)
theorem Bk.web_mem {b : Bk} (ok : b.Ok) {s : Sd} (hs : s ∈ b.stds) {p : List Nat × Sd} (h : p ∈ b.web s) : p.2 ∈ b.stds := by
  obtain ⟨l, hl, rfl⟩ := List.mem_map.mp h
  exact Bk.mem_stds.mpr (Bk.nxt_ok ok (Bk.mem_stds.mp hs) hl)
end Nog

set_option Elab.async false
set_option linter.all false
set_option maxRecDepth 100000
set_option maxHeartbeats 2000000
/-! webs: what is dead, by counting and by peeling: plain -/
namespace Nog
section
variable {κ : Type} [DecidableEq κ] {ℓ : Type} {W : κ → List (ℓ × κ)} {N : List κ}
/-- how often s stands in l -/
def cnt (s : κ) (l : List κ) : Nat := l.count s
theorem cnt_append (s : κ) (l m : List κ) : cnt s (l ++ m) = cnt s l + cnt s m := List.count_append
theorem cnt_self (s : κ) (l : List κ) : cnt s (s :: l) = cnt s l + 1 := List.count_cons_self
theorem cnt_ne {s t : κ} (l : List κ) (h : t ≠ s) : cnt s (t :: l) = cnt s l := List.count_cons_of_ne h
theorem cnt_zero {s : κ} {l : List κ} (h : cnt s l = 0) : s ∉ l := List.count_eq_zero.mp h
theorem cnt_nil (s : κ) : cnt s [] = 0 := rfl
/-- every row of steps ends -/
inductive Dead (W : κ → List (ℓ × κ)) : κ → Prop
  | mk (s : κ) (h : ∀ p ∈ W s, Dead W p.2) : Dead W s
/-- how many steps of s lead to x -/
def edges (W : κ → List (ℓ × κ)) (s x : κ) : Nat := ((W s).filter fun p => decide (p.2 = x)).length
/-- .. to none of Z -/
def openE (W : κ → List (ℓ × κ)) (Z : List κ) (s : κ) : Nat := ((W s).filter fun p => decide (p.2 ∉ Z)).length
theorem openE_snoc {Z : List κ} {x : κ} (hx : x ∉ Z) (s : κ) : openE W (Z ++ [x]) s + edges W s x = openE W Z s := by
  unfold openE edges
  induction W s with
  | nil => rfl
  | cons p r ih =>
    simp only [List.filter_cons, List.mem_append, List.mem_singleton, not_or, Bool.decide_and]
    by_cases h1 : p.2 ∈ Z
    · have h2 : p.2 ≠ x := fun e => hx (e ▸ h1)
      simp only [h1, h2, not_true, decide_false, decide_true, Bool.false_and]
      simpa using ih
    · by_cases h2 : p.2 = x
      · simp only [h1, h2, not_true, not_false_iff, decide_false, decide_true, Bool.and_false, hx]
        simp only [if_true, List.length_cons]
        simp at ih ⊢
        omega
      · simp only [h1, h2, not_true, not_false_iff, decide_false, decide_true, Bool.and_true]
        simp at ih ⊢
        omega
theorem openE_nil (s : κ) : openE W [] s = (W s).length := by
  unfold openE
  rw [List.filter_eq_self.mpr (fun p _ => by simp)]
theorem openE_zero {Z : List κ} {s : κ} (h : openE W Z s = 0) : ∀ p ∈ W s, p.2 ∈ Z := fun p hp => by
  unfold openE at h
  have := List.length_eq_zero_iff.mp h
  rw [List.filter_eq_nil_iff] at this
  have := this p hp
  simpa using this
theorem zero_openE {Z : List κ} {s : κ} (h : ∀ p ∈ W s, p.2 ∈ Z) : openE W Z s = 0 := by
  unfold openE
  rw [List.length_eq_zero_iff, List.filter_eq_nil_iff]
  intro p hp
  simp [h p hp]
/-- the outer word: Z the row to do, its first a are done -/
structure Kahn (W : κ → List (ℓ × κ)) (N Z : List κ) (a : Nat) (left : κ → Nat) : Prop where
  nd : Z.Nodup
  sub : ∀ s ∈ Z, s ∈ N
  le : a ≤ Z.length
  lf : ∀ s ∈ N, left s = openE W (Z.take a) s
  iff : ∀ s ∈ N, s ∈ Z ↔ left s = 0
  dead : ∀ s ∈ Z, Dead W s
/-- the inner word: pre of the row that leads to x is gone through -/
structure KahnI (W : κ → List (ℓ × κ)) (N Z : List κ) (left : κ → Nat) (pre Z' : List κ) (left' : κ → Nat) : Prop where
  nd : Z'.Nodup
  sub : ∀ s ∈ Z', s ∈ N
  pf : Z <+: Z'
  lf : ∀ s ∈ N, left' s + cnt s pre = left s
  iff : ∀ s ∈ N, s ∈ Z' ↔ left' s = 0
theorem kahn_start (nN : N.Nodup) : Kahn W N (N.filter fun s => decide ((W s).length = 0)) 0 (fun s => (W s).length) where
  nd := List.Pairwise.filter _ nN
  sub := fun s hs => (List.mem_filter.mp hs).1
  le := Nat.zero_le _
  lf := fun s _ => by rw [List.take_zero, openE_nil]
  iff := fun s hs => by rw [List.mem_filter, decide_eq_true_eq]; exact ⟨fun h => h.2, fun h => ⟨hs, h⟩⟩
  dead := fun s hs => by
    have := of_decide_eq_true (List.mem_filter.mp hs).2
    rw [List.length_eq_zero_iff] at this
    exact ⟨s, fun p hp => by rw [this] at hp; cases hp⟩
variable {Z A : List κ} {a : Nat} {left : κ → Nat} {x : κ}
theorem Kahn.inner0 (k : Kahn W N Z a left) : KahnI W N Z left [] Z left := ⟨k.nd, k.sub, List.prefix_refl _, fun s _ => rfl, k.iff⟩
theorem Kahn.room (k : Kahn W N Z a left) (hx : Z[a]? = some x) {s : κ} (hs : s ∈ N) : edges W s x ≤ left s := by
  rw [k.lf s hs]
  have hn : x ∉ Z.take a := fun h => by
    obtain ⟨i, hi⟩ := List.mem_iff_getElem?.mp h
    rw [List.getElem?_take] at hi
    split at hi
    · obtain ⟨h1, e1⟩ := List.getElem?_eq_some_iff.mp hi
      obtain ⟨h2, e2⟩ := List.getElem?_eq_some_iff.mp hx
      have := (List.getElem_inj k.nd).mp (e1.trans e2.symm)
      omega
    · cases hi
  have := openE_snoc (W := W) hn s
  omega
/-- one of the row that leads to x -/
theorem KahnI.step {pre post Z' : List κ} {o : κ} {left' : κ → Nat} (k : Kahn W N Z a left) (hx : Z[a]? = some x) (hA : ∀ s ∈ N, cnt s A = edges W s x) (i : KahnI W N Z left pre Z' left') (hp : A = pre ++ o :: post) (ho : o ∈ N) :
    1 ≤ left' o ∧ KahnI W N Z left (pre ++ [o]) (if left' o - 1 = 0 then Z' ++ [o] else Z') (fun s => if s = o then left' o - 1 else left' s) := by
  have h1 : cnt o A = cnt o pre + (cnt o post + 1) := by rw [hp, cnt_append, cnt_self]
  have h2 := hA o ho
  have h3 := k.room hx ho
  have h4 := i.lf o ho
  have h5 : 1 ≤ left' o := by omega
  have hn : o ∉ Z' := fun h => by have := (i.iff o ho).mp h; omega
  refine ⟨h5, ?_, ?_, ?_, ?_, ?_⟩
  · split
    · rw [List.nodup_append]
      exact ⟨i.nd, by simp, fun u hu v hv e => by rw [List.mem_singleton.mp hv] at e; subst e; exact hn hu⟩
    · exact i.nd
  · split
    · intro s hs
      rcases List.mem_append.mp hs with h | h
      · exact i.sub s h
      · rw [List.mem_singleton.mp h]; exact ho
    · exact i.sub
  · split
    · exact i.pf.trans (List.prefix_append ..)
    · exact i.pf
  · intro s hs
    have := i.lf s hs
    rw [cnt_append]
    by_cases e : s = o
    · subst e
      simp only [if_true, cnt_self, cnt_nil]
      omega
    · simp only [e, if_false, cnt_ne _ (fun q => e q.symm), cnt_nil]
      omega
  · intro s hs
    have g := i.iff s hs
    by_cases e : s = o
    · subst e
      simp only [if_true]
      split
      · rename_i q; simp [q]
      · rename_i q
        exact ⟨fun h => (hn h).elim, fun h => (q h).elim⟩
    · simp only [e, if_false]
      split
      · rw [List.mem_append, List.mem_singleton]
        exact ⟨fun h => g.mp (h.resolve_right e), fun h => .inl (g.mpr h)⟩
      · exact g
/-- .. all gone through -/
theorem KahnI.fin {Z' : List κ} {left' : κ → Nat} (k : Kahn W N Z a left) (hx : Z[a]? = some x) (hA : ∀ s ∈ N, cnt s A = edges W s x) (i : KahnI W N Z left A Z' left') : Kahn W N Z' (a + 1) left' := by
  obtain ⟨Y, hY⟩ := i.pf
  have ha : a < Z.length := (List.getElem?_eq_some_iff.mp hx).1
  have e1 : Z'.take (a + 1) = Z.take a ++ [x] := by
    rw [← hY, List.take_append_of_le_length (by omega), List.take_add_one, hx]; rfl
  have hn : x ∉ Z.take a := fun h => by
    obtain ⟨i, hi⟩ := List.mem_iff_getElem?.mp h
    rw [List.getElem?_take] at hi
    split at hi
    · obtain ⟨h1, e1⟩ := List.getElem?_eq_some_iff.mp hi
      obtain ⟨h2, e2⟩ := List.getElem?_eq_some_iff.mp hx
      have := (List.getElem_inj k.nd).mp (e1.trans e2.symm)
      omega
    · cases hi
  have lf : ∀ s ∈ N, left' s = openE W (Z'.take (a + 1)) s := fun s hs => by
    have g1 := i.lf s hs
    have g2 := hA s hs
    have g3 := k.lf s hs
    have g4 := openE_snoc (W := W) hn s
    rw [e1]
    omega
  have dd : ∀ s ∈ Z.take a ++ [x], Dead W s := fun s hs => by
    rcases List.mem_append.mp hs with h | h
    · exact k.dead s (List.mem_of_mem_take h)
    · rw [List.mem_singleton.mp h]; exact k.dead x (List.mem_of_getElem? hx)
  refine ⟨i.nd, i.sub, ?_, lf, i.iff, fun s hs => ?_⟩
  · rw [← hY, List.length_append]; omega
  · have z := (i.iff s (i.sub s hs)).mp hs
    rw [lf s (i.sub s hs)] at z
    exact ⟨s, fun p hp => dd _ (e1 ▸ openE_zero z p hp)⟩
/-- all done: the dead ones -/
theorem Kahn.all (hW : ∀ s ∈ N, ∀ p ∈ W s, p.2 ∈ N) (k : Kahn W N Z Z.length left) {s : κ} (hs : s ∈ N) : s ∈ Z ↔ Dead W s := by
  refine ⟨k.dead s, fun h => ?_⟩
  induction h with
  | mk s h ih =>
    refine (k.iff s hs).mpr ?_
    rw [k.lf s hs, List.take_length]
    exact zero_openE fun p hp => ih p hp (hW s hs p hp)
theorem Kahn.here (k : Kahn W N Z a left) (hx : Z[a]? = some x) : ∀ p ∈ W x, p.2 ∈ Z.take a := by
  have hz : x ∈ Z := List.mem_of_getElem? hx
  have := (k.iff x (k.sub x hz)).mp hz
  rw [k.lf x (k.sub x hz)] at this
  exact openE_zero this
/-- what is left when nothing more can be taken off -/
theorem live_of {L : List κ} (hL : ∀ s ∈ L, ∃ p ∈ W s, p.2 ∈ L) {s : κ} (hs : s ∈ L) : ¬ Dead W s := fun h => by
  induction h with
  | mk s h ih =>
    obtain ⟨p, hp, hl⟩ := hL s hs
    exact ih p hp hl
/-- the live nodes, in sequence -/
noncomputable def liveL (W : κ → List (ℓ × κ)) (N : List κ) : List κ := N.filter fun s => @decide (¬ Dead W s) (Classical.propDecidable _)
theorem mem_liveL {s : κ} : s ∈ liveL W N ↔ s ∈ N ∧ ¬ Dead W s := by
  unfold liveL
  rw [List.mem_filter, @decide_eq_true_eq _ (Classical.propDecidable _)]
theorem live_succ {s : κ} (hs : ¬ Dead W s) : ∃ p ∈ W s, ¬ Dead W p.2 := Classical.byContradiction fun h => hs ⟨s, fun p hp => Classical.byContradiction fun hd => h ⟨p, hp, hd⟩⟩
/-- a part that is left, in sequence, is the live ones -/
theorem liveL_eq {L : List κ} (hs : List.Sublist L N) (nN : N.Nodup) (hL : ∀ s ∈ L, ∃ p ∈ W s, p.2 ∈ L) (hD : ∀ s ∈ N, s ∉ L → Dead W s) : liveL W N = L := by
  have h1 : liveL W N = N.filter fun s => decide (s ∈ L) := by
    unfold liveL
    refine List.filter_congr fun s hs => ?_
    by_cases h : s ∈ L
    · simp [h, live_of hL h]
    · simp [h, hD s hs h]
  rw [h1]
  clear h1 hD hL
  induction hs with
  | slnil => rfl
  | cons a h ih =>
    rename_i l1 l2
    rw [List.nodup_cons] at nN
    have ha : a ∉ l1 := fun q => nN.1 (h.subset q)
    rw [List.filter_cons, if_neg (by simpa using ha)]
    exact ih nN.2
  | cons_cons a h ih =>
    rename_i l1 l2
    rw [List.nodup_cons] at nN
    rw [List.filter_cons, if_pos (by simp)]
    congr 1
    rw [← ih nN.2]
    refine List.filter_congr fun s hs => ?_
    have : s ≠ a := fun e => by subst e; exact nN.1 hs
    by_cases q : s ∈ l1 <;> simp [q, this, ih nN.2]
/-- dict entries of all nodes -/
theorem putK_map {β : Type} (f : κ → β) (k : κ) (v : β) : ∀ {N : List κ}, N.Nodup → k ∈ N → putK k v (N.map fun s => (s, f s)) = N.map fun s => (s, if s = k then v else f s)
  | [], _, h => by cases h
  | a :: N, hn, h => by
    rw [List.nodup_cons] at hn
    rw [List.map_cons, putK, List.map_cons]
    by_cases e : a = k
    · subst e
      rw [if_pos rfl, if_pos rfl]
      congr 1
      refine List.map_congr_left fun s hs => ?_
      rw [if_neg (fun e => by subst e; exact hn.1 hs)]
    · rw [if_neg e, if_neg e, putK_map f k v hn.2 ((List.mem_cons.mp h).resolve_left (fun q => e q.symm))]
theorem putK_new {β : Type} (k : κ) (v : β) : ∀ {l : List (κ × β)}, k ∉ l.map (·.1) → putK k v l = l ++ [(k, v)]
  | [], _ => rfl
  | (a, u) :: r, h => by
    rw [List.map_cons, List.mem_cons, not_or] at h
    rw [putK, if_neg (fun e => h.1 e.symm), putK_new k v h.2]; rfl
theorem getK_map {β : Type} (f : κ → β) (k : κ) : ∀ {N : List κ}, k ∈ N → getK k (N.map fun s => (s, f s)) = some (f k)
  | [], h => by cases h
  | a :: N, h => by
    rw [List.map_cons, getK]
    by_cases e : a = k
    · subst e; rw [if_pos rfl]
    · rw [if_neg e, getK_map f k ((List.mem_cons.mp h).resolve_left (fun q => e q.symm))]
theorem getK_none {β : Type} (k : κ) : ∀ {l : List (κ × β)}, k ∉ l.map (·.1) → getK k l = none
  | [], _ => rfl
  | (a, u) :: r, h => by
    rw [List.map_cons, List.mem_cons, not_or] at h
    rw [getK, if_neg (fun e => h.1 e.symm), getK_none k h.2]
theorem any_key {β : Type} (k : κ) (l : List (κ × β)) : (l.any fun p => decide (p.1 = k)) = decide (k ∈ l.map (·.1)) := by
  rw [Bool.eq_iff_iff, List.any_eq_true, decide_eq_true_eq, List.mem_map]
  exact ⟨fun ⟨p, h, e⟩ => ⟨p, h, of_decide_eq_true e⟩, fun ⟨p, h, e⟩ => ⟨p, h, decide_eq_true e⟩⟩
end
end Nog

set_option Elab.async false
set_option linter.all false
set_option maxRecDepth 100000
set_option maxHeartbeats 2000000
/-! running the evaluator: objects -/
namespace Nog
section
variable {C : Call} {σ σ1 σ2 : Env} {S S1 S2 S3 S4 : Sto} {p q r : Pv} {d : D} {e a b c : E} {es : List E} {l : Nat} {xs : List D} {kvs : List (D × D)} {lk : Bool}
theorem it_ref (h : S[l]? = some (.lst xs)) : (Pv.val (.ref l)).items S = some xs := by simp only [Pv.items, h]
theorem lk_ref (h : S[l]? = some (.lst xs)) : (Pv.val (.ref l)).lock S = none := by simp only [Pv.lock, h]
theorem hd_ref {o : O} (h : S[l]? = some o) : (Pv.val (.ref l)).held S = [(l, o)] := by simp only [Pv.held, h]
theorem held_one {o : O} (h : S[l]? = some o) : heldOk [(l, o)] S = true := by simp only [heldOk, h, decide_true, Bool.and_self]
theorem sq_ref (h : S[l]? = some (.lst xs)) : (Pv.val (.ref l)).seqI S = some xs := by simp only [Pv.seqI, Pv.lstItems, h]
theorem ls_ref (h : S[l]? = some (.lst xs)) : (Pv.val (.ref l)).lstItems S = some xs := by simp only [Pv.lstItems, h]
theorem bg_ref (h : S[l]? = some (.lst xs)) : (Pv.val (.ref l)).bag S = some xs := by simp only [Pv.bag, sq_ref h]
theorem bg_dct (h : S[l]? = some (.dct lk kvs)) : (Pv.val (.ref l)).bag S = some (kvs.map (·.1)) := by simp only [Pv.bag, Pv.seqI, Pv.lstItems, Pv.dctI, h]
theorem b_lenR (h : S[l]? = some (.lst xs)) : bi1 .len S (.val (.ref l)) = .ok (.val (.int xs.length)) S := by simp only [bi1, bg_ref h]
theorem b_lenD (h : S[l]? = some (.dct lk kvs)) : bi1 .len S (.val (.ref l)) = .ok (.val (.int kvs.length)) S := by simp only [bi1, bg_dct h, List.length_map]
theorem b_tupR (h : S[l]? = some (.lst xs)) : bi1 .tuple S (.val (.ref l)) = .ok (.val (.tup xs)) S := by simp only [bi1, sq_ref h]
theorem b_listD (h : S[l]? = some (.dct lk kvs)) : bi1 .list S (.val (.ref l)) = .ok (.fresh (kvs.map (·.1))) S := by simp only [bi1, bg_dct h]
theorem ixR {i : Int} {j : Nat} (h : S[l]? = some (.lst xs)) (hi : ixN i xs.length = some j) (hj : xs[j]? = some d) : ixP S (.val (.ref l)) (.val (.int i)) = some d := by simp only [ixP, h, hi, Option.bind_some, hj]
theorem ixRn {i : Nat} (h : S[l]? = some (.lst xs)) (hj : xs[i]? = some d) : ixP S (.val (.ref l)) (.val (nD i)) = some d := ixR h (ixN_nat (List.getElem?_eq_some_iff.mp hj).1) hj
theorem ixD {k : D} (h : S[l]? = some (.dct lk kvs)) (hk : okKey k = true) (hj : lookD k kvs = some d) : ixP S (.val (.ref l)) (.val k) = some d := by simp only [ixP, h, hk, if_true, hj]
theorem inD {k : D} (h : S[l]? = some (.dct lk kvs)) (hk : okKey k = true) : cmP .inn S (.val k) (.val (.ref l)) = some (kvs.any fun p => decide (p.1 = k)) := by simp only [cmP, inP, h, hk, if_true]
theorem notinD {k : D} (h : S[l]? = some (.dct lk kvs)) (hk : okKey k = true) : cmP .notin S (.val k) (.val (.ref l)) = some (!kvs.any fun p => decide (p.1 = k)) := by simp only [cmP, inP, h, hk, if_true]; rfl
theorem put_dct {k v : D} (h : S[l]? = some (.dct false kvs)) (hk : okKey k = true) (hl : kvs.length < lim) : putQ (.val (.ref l)) (.val k) v S = .ok () (S.set l (.dct false (putD k v kvs))) := by
  have e : (okKey k && decide (kvs.length < lim)) = true := by rw [hk, decide_eq_true hl]; rfl
  simp only [putQ, putDP, h, e, if_true]
theorem put_lst {i : Int} {j : Nat} {v : D} (h : S[l]? = some (.lst xs)) (hi : ixN i xs.length = some j) : putQ (.val (.ref l)) (.val (.int i)) v S = .ok () (S.set l (.lst (xs.set j v))) := by
  simp only [putQ, putDP, h, hi]
theorem on_lst {m : Me} (hm : m.onD = false) (h : S[l]? = some (.lst xs)) : m.on S (.val (.ref l)) = true := by simp only [Me.on, hm, Pv.isLs, h]; rfl
theorem on_dct {m : Me} (hm : m.onD = true) (h : S[l]? = some (.dct lk kvs)) : m.on S (.val (.ref l)) = true := by simp only [Me.on, hm, Pv.isDc, h]; rfl
theorem ms_append (h : S[l]? = some (.lst xs)) (hl : xs.length < lim) : ms .append S (.val (.ref l)) [d] = .ok (.val .non) (S.set l (.lst (xs ++ [d]))) := by simp only [ms, h, hl, if_true]
theorem ms_pop (h : S[l]? = some (.lst (xs ++ [d]))) : ms .pop S (.val (.ref l)) [] = .ok (.val d) (S.set l (.lst xs)) := by
  have e1 : (xs ++ [d]).getLast? = some d := by simp
  have e2 : (xs ++ [d]).dropLast = xs := by simp
  simp only [ms, h, e1, e2]
theorem ms_dpop {k : D} (h : S[l]? = some (.dct false kvs)) (hk : okKey k = true) (hj : lookD k kvs = some d) : ms .dpop S (.val (.ref l)) [k] = .ok (.val d) (S.set l (.dct false (dropD k kvs))) := by
  simp only [ms, h, hk, hj]; rfl
/-! ### an own list or dict is added -/
theorem look_new (S : Sto) (o : O) : (S ++ [o])[S.length]? = some o := by simp
theorem look_old {o o' : O} (h : S[l]? = some o) : (S ++ [o'])[l]? = some o := by
  rw [List.getElem?_append_left (List.getElem?_eq_some_iff.mp h).1]; exact h
theorem look_app {o : O} (h : S[l]? = some o) (T : Sto) : (S ++ T)[l]? = some o := by
  rw [List.getElem?_append_left (List.getElem?_eq_some_iff.mp h).1]; exact h
theorem look_set {o o' : O} {k : Nat} (h : S[l]? = some o) (hk : k ≠ l) : (S.set k o')[l]? = some o := by
  rw [List.getElem?_set_ne hk]; exact h
theorem look_put {o o' : O} (h : S[l]? = some o) : (S.set l o')[l]? = some o' := List.getElem?_set_self (List.getElem?_eq_some_iff.mp h).1
theorem set_app {T : Sto} {o : O} (h : l < S.length) : (S ++ T).set l o = S.set l o ++ T := by rw [List.set_append_left _ _ h]
theorem set_back {o o' : O} (h : S[l]? = some o) : (S.set l o').set l o = S := by
  rw [List.set_set]
  refine List.ext_getElem? fun i => ?_
  by_cases e : i = l
  · subst e; rw [List.getElem?_set_self (List.getElem?_eq_some_iff.mp h).1, h]
  · rw [List.getElem?_set_ne (Ne.symm e)]
/-! ### comprehensions whose turns let the store grow -/
theorem lcRun_st {ι : Type} {hs : List (Nat × O)} {f : D → Sto → Rs (Option D)} {enc : ι → D} (St : List ι → Sto) (g : ι → Option D) : ∀ {as : List ι} (pre : List ι), (∀ pre', heldOk hs (St pre') = true) →
    (∀ pre' a post, pre ++ as = pre' ++ a :: post → f (enc a) (St pre') = .ok (g a) (St (pre' ++ [a]))) → lcRun hs f (as.map enc) (St pre) = .ok (as.filterMap g) (St (pre ++ as))
  | [], pre, hh, _ => by rw [List.map_nil, lcRun, if_pos (hh _), List.append_nil]; rfl
  | a :: as, pre, hh, h => by
    have e : pre ++ a :: as = (pre ++ [a]) ++ as := by simp
    rw [List.map_cons, lcRun, if_pos (hh _), h pre a as rfl, bind_ok, lcRun_st St g (pre ++ [a]) hh fun p' a' q' e' => h p' a' q' (e.trans e'), bind_ok, ← e]
    cases q : g a <;> simp [List.filterMap_cons, q]
/-- over a dict: [elt for x in d if ..] -/
theorem r_lcD {ι : Type} {tg : Tg} {own : List Nat} {ifs : List E} {elt : E} {as : List ι} {enc : ι → D} (c : ι → Bool) (v : ι → D) (hq : ev C e σ S = .ok (.val (.ref l)) S1) (hS : S1[l]? = some (.dct false kvs)) (hk : kvs.map (·.1) = as.map enc)
    (h : ∀ a ∈ as, lcStep C tg own ifs elt σ (enc a) (S1.set l (.dct true kvs)) = .ok (if c a then some (v a) else none) (S1.set l (.dct true kvs))) : ev C (.lc own elt tg e ifs) σ S = .ok (.fresh ((as.filter c).map v)) S1 := by
  have hp := look_put (o' := .dct true kvs) hS
  have e1 : (Pv.val (.ref l)).lock S1 = some (l, kvs) := by simp only [Pv.lock, hS]
  have e2 : (Pv.val (.ref l)).lockS S1 = S1.set l (.dct true kvs) := by simp only [Pv.lockS, e1]
  have e3 : (Pv.val (.ref l)).held (S1.set l (.dct true kvs)) = [(l, .dct true kvs)] := hd_ref hp
  have e4 : (Pv.val (.ref l)).items S1 = some (as.map enc) := by simp only [Pv.items, hS, hk]
  rw [ev, hq, bind_ok, e4]
  have q := lcRun_if (hs := [(l, .dct true kvs)]) c v (held_one hp) h
  have u : Nog.unl (some (l, kvs)) (S1.set l (.dct true kvs)) = some S1 := by simp only [Nog.unl, hp, if_true, set_back hS]
  simp only [e1, e2, e3]
  refine (congrArg (fun r : Rs (List D) => (r.unl (some (l, kvs))).calm.bind fun ys S2 => Rs.ok (Pv.fresh ys) S2) q).trans ?_
  simp only [Rs.unl, u, calm_ok, bind_ok]
def dcStep (C : Call) (tg : Tg) (own : List Nat) (ifs : List E) (k v : E) (σ : Env) (x : D) (S : Sto) : Rs (Option D) :=
  match bindTg tg x (wipe σ own) with
  | some σ1 => (evi C ifs σ1 S).bind fun b S2 => if b then (ev C k σ1 S2).bind fun r S3 => match r with
      | .val kd => (ev C v σ1 S3).bind fun r S4 => (r.toVal S4).bind fun vd S5 => if okKey kd then .ok (some (.tup [kd, vd])) S5 else .no
      | _ => .no
    else .ok none S2
  | none => .no
theorem dcStep_all {tg : Tg} {own : List Nat} {k v : E} {x kd vd : D} (hb : bindTg tg x (wipe σ own) = some σ1) (h1 : ev C k σ1 S = .ok (.val kd) S) (h2 : ev C v σ1 S = .ok p S1) (h3 : p.toVal S1 = .ok vd S2) (hk : okKey kd = true) :
    dcStep C tg own [] k v σ x S = .ok (some (.tup [kd, vd])) S2 := by
  unfold dcStep
  simp only [hb, evi, bind_ok, if_true, h1, h2, h3, hk]
theorem pairs_map {ι : Type} {key val : ι → D} : ∀ {as : List ι}, (∀ a ∈ as, okKey (key a) = true) → pairsOf (as.map fun a => .tup [key a, val a]) = some (as.map fun a => (key a, val a))
  | [], _ => rfl
  | a :: as, h => by
    rw [List.map_cons, pairsOf, if_pos (h a List.mem_cons_self), pairs_map fun b hb => h b (List.mem_cons_of_mem _ hb)]; rfl
theorem putD_new {k v : D} : ∀ {l : List (D × D)}, k ∉ l.map (·.1) → putD k v l = l ++ [(k, v)]
  | [], _ => rfl
  | (a, u) :: r, h => by
    rw [List.map_cons, List.mem_cons, not_or] at h
    rw [putD, if_neg (fun e => h.1 e.symm), putD_new h.2]; rfl
theorem putAll_new : ∀ {l acc : List (D × D)}, ((acc ++ l).map (·.1)).Nodup → putAll acc l = acc ++ l
  | [], acc, _ => by rw [putAll, List.append_nil]
  | (k, v) :: r, acc, h => by
    have h1 : k ∉ acc.map (·.1) := fun hx => by
      rw [List.map_append, List.nodup_append] at h
      exact h.2.2 k hx k List.mem_cons_self rfl
    rw [putAll, putD_new h1, putAll_new (by simpa using h)]
    simp
theorem putAll_map {ι : Type} {key val : ι → D} {as : List ι} (hn : (as.map key).Nodup) : putAll [] (as.map fun a => (key a, val a)) = as.map fun a => (key a, val a) := by
  rw [putAll_new]; · rfl
  · rw [List.nil_append, List.map_map]; exact hn
/-- over a tuple or a list: {k: v for ..} -/
theorem r_dcT {ι : Type} {tg : Tg} {own : List Nat} {ifs : List E} {k v : E} {as : List ι} {enc : ι → D} {xs : List D} (key val : ι → D) (hq : ev C e σ S = .ok p S1) (hi : p.items S1 = some xs) (hx : xs = as.map enc) (hl : p.lock S1 = none) (hh : heldOk (p.held S1) S1 = true)
    (hn : (as.map key).Nodup) (hok : ∀ a ∈ as, okKey (key a) = true)
    (h : ∀ a ∈ as, dcStep C tg own ifs k v σ (enc a) S1 = .ok (some (.tup [key a, val a])) S1) : ev C (.dc own k v tg e ifs) σ S = .ok (.val (.ref S1.length)) (S1 ++ [.dct false (as.map fun a => (key a, val a))]) := by
  rw [ev, hq, bind_ok, hi]
  have e1 : p.lockS S1 = S1 := by unfold Pv.lockS; rw [hl]
  have e2 := lcRun_map (hs := p.held S1) (fun a => D.tup [key a, val a]) hh h
  simp only [hl, e1, unl_none]
  subst hx
  refine (congrArg (fun r : Rs (List D) => r.calm.bind fun ys S2 => match pairsOf ys with
          | some kvs => Rs.ok (Pv.val (.ref S2.length)) (S2 ++ [.dct false (putAll [] kvs)])
          | none => .no) e2).trans ?_
  simp only [calm_ok, bind_ok, pairs_map hok, putAll_map hn]
/-- over a dict, the store growing behind -/
theorem r_dcD {ι : Type} {tg : Tg} {own : List Nat} {ifs : List E} {k v : E} {as : List ι} {enc : ι → D} (key val : ι → D) (T : List ι → Sto) (hq : ev C e σ S = .ok (.val (.ref l)) S1) (hS : S1[l]? = some (.dct false kvs)) (hk : kvs.map (·.1) = as.map enc)
    (hn : (as.map key).Nodup) (hok : ∀ a ∈ as, okKey (key a) = true) (h0 : T [] = [])
    (h : ∀ pre a post, as = pre ++ a :: post → dcStep C tg own ifs k v σ (enc a) (S1.set l (.dct true kvs) ++ T pre) = .ok (some (.tup [key a, val a])) (S1.set l (.dct true kvs) ++ T (pre ++ [a]))) :
    ev C (.dc own k v tg e ifs) σ S = .ok (.val (.ref (S1 ++ T as).length)) (S1 ++ T as ++ [.dct false (as.map fun a => (key a, val a))]) := by
  have hp := look_put (o' := .dct true kvs) hS
  have hlt : l < S1.length := (List.getElem?_eq_some_iff.mp hS).1
  have e1 : (Pv.val (.ref l)).lock S1 = some (l, kvs) := by simp only [Pv.lock, hS]
  have e2 : (Pv.val (.ref l)).lockS S1 = S1.set l (.dct true kvs) := by simp only [Pv.lockS, e1]
  have e3 : (Pv.val (.ref l)).held (S1.set l (.dct true kvs)) = [(l, .dct true kvs)] := hd_ref hp
  have e4 : (Pv.val (.ref l)).items S1 = some (as.map enc) := by simp only [Pv.items, hS, hk]
  rw [ev, hq, bind_ok, e4]
  have q := lcRun_st (hs := [(l, .dct true kvs)]) (f := dcStep C tg own ifs k v σ) (enc := enc) (fun pre => S1.set l (.dct true kvs) ++ T pre) (fun a => some (D.tup [key a, val a])) (as := as) [] (fun pre => held_one (look_app hp _)) fun pre a post e => h pre a post (by simpa using e)
  rw [h0, List.append_nil, List.nil_append] at q
  have u : Nog.unl (some (l, kvs)) (S1.set l (.dct true kvs) ++ T as) = some (S1 ++ T as) := by
    simp only [Nog.unl, look_app hp (T as), if_true]
    rw [set_app (by rw [List.length_set]; exact hlt), set_back hS]
  simp only [e1, e2, e3]
  have q2 : as.filterMap (fun a => some (D.tup [key a, val a])) = as.map fun a => D.tup [key a, val a] := by rw [List.filterMap_eq_map']
  rw [q2] at q
  refine (congrArg (fun r : Rs (List D) => (r.unl (some (l, kvs))).calm.bind fun ys S2 => match pairsOf ys with
          | some kvs => Rs.ok (Pv.val (.ref S2.length)) (S2 ++ [.dct false (putAll [] kvs)])
          | none => .no) q).trans ?_
  simp only [Rs.unl, u, calm_ok, bind_ok, pairs_map hok, putAll_map hn]
def frI (I : Env → Sto → Prop) : Sr → Prop
  | .nx σ S => I σ S
  | .ct σ S => I σ S
  | _ => False
variable {ss : List St} {Q : Sr → Prop}
/-- for x in d -/
theorem w_frD {ι : Type} {enc : ι → D} {tg : Tg} {x : List St} {as : List ι} (Inv : List ι → Env → Sto → Prop) (hq : ev C e σ S = .ok (.val (.ref l)) S1) (hS : S1[l]? = some (.dct false kvs)) (hk : kvs.map (·.1) = as.map enc)
    (h0 : Inv [] σ (S1.set l (.dct true kvs))) (hh : ∀ pre σ S, Inv pre σ S → S[l]? = some (.dct true kvs))
    (step : ∀ pre a post σ S, as = pre ++ a :: post → Inv pre σ S → ∃ σ1, bindTg tg (enc a) σ = some σ1 ∧ Wp C x σ1 S (frI (Inv (pre ++ [a]))))
    (fin : ∀ σ S, Inv as σ S → Wp C ss σ (S.set l (.dct false kvs)) Q) : Wp C (.fr tg e x :: ss) σ S Q := by
  refine w_cons ?_
  have hp := look_put (o' := .dct true kvs) hS
  have e1 : (Pv.val (.ref l)).lock S1 = some (l, kvs) := by simp only [Pv.lock, hS]
  have e2 : (Pv.val (.ref l)).lockS S1 = S1.set l (.dct true kvs) := by simp only [Pv.lockS, e1]
  have e3 : (Pv.val (.ref l)).held (S1.set l (.dct true kvs)) = [(l, .dct true kvs)] := hd_ref hp
  have e4 : (Pv.val (.ref l)).items S1 = some (as.map enc) := by simp only [Pv.items, hS, hk]
  rw [evS, hq, st_ok, e4]
  simp only [e1, e2, e3]
  refine fr_run (Q := fun r => sq C ss Q (r.unl (some (l, kvs)))) Inv [] (fun pre a post σ S ha h => ⟨held_one (hh pre σ S h), ?_⟩) (fun σ S h => ⟨held_one (hh _ σ S h), ?_⟩) h0
  · obtain ⟨σ1, hb, w⟩ := step pre a post σ S ha h
    simp only [hb]
    unfold Wp at w
    cases q : evSs C x σ1 S <;> rw [q] at w <;> first | exact w | exact w.elim
  · show sq C ss Q (Sr.unl (some (l, kvs)) (.nx σ S))
    simp only [Sr.unl, Nog.unl, hh _ σ S h, if_true]
    exact fin σ S h
end
end Nog

set_option Elab.async false
set_option linter.all false
set_option maxRecDepth 100000
set_option maxHeartbeats 2000000
/-! running the evaluator: more rules -/
namespace Nog
section
variable {C : Call} {σ σ1 σ2 : Env} {S S1 S2 S3 S4 : Sto} {p q r : Pv} {d : D} {e a b c : E} {es : List E} {l : Nat} {xs : List D} {kvs : List (D × D)} {lk : Bool}
/-- a row told as a tuple or as a list -/
def IsSeq (S : Sto) (d : D) (xs : List D) : Prop := d = .tup xs ∨ ∃ l, d = .ref l ∧ S[l]? = some (.lst xs)
theorem IsSeq.app (h : IsSeq S d xs) (T : Sto) : IsSeq (S ++ T) d xs := h.imp id fun ⟨l, e, g⟩ => ⟨l, e, look_app g T⟩
theorem IsSeq.items (h : IsSeq S d xs) : (Pv.val d).items S = some xs := by
  rcases h with rfl | ⟨l, rfl, g⟩
  · rfl
  · exact it_ref g
theorem IsSeq.lock (h : IsSeq S d xs) : (Pv.val d).lock S = none := by
  rcases h with rfl | ⟨l, rfl, g⟩
  · rfl
  · exact lk_ref g
theorem IsSeq.held (h : IsSeq S d xs) (T : Sto) : heldOk ((Pv.val d).held S) (S ++ T) = true := by
  rcases h with rfl | ⟨l, rfl, g⟩
  · rfl
  · rw [hd_ref g]; exact held_one (look_app g T)
theorem IsSeq.len (h : IsSeq S d xs) : bi1 .len S (.val d) = .ok (.val (.int xs.length)) S := by
  rcases h with rfl | ⟨l, rfl, g⟩
  · rfl
  · exact b_lenR g
theorem IsSeq.tuple (h : IsSeq S d xs) : bi1 .tuple S (.val d) = .ok (.val (.tup xs)) S := by
  rcases h with rfl | ⟨l, rfl, g⟩
  · rfl
  · exact b_tupR g
theorem IsSeq.notin {x : Nat} {ns : List Nat} (h : IsSeq S d (ns.map nD)) : cmP .notin S (.val (nD x)) (.val d) = some (!decide (x ∈ ns)) := by
  rcases h with rfl | ⟨l, rfl, g⟩
  · exact notin_lot S x ns
  · have h1 : D.plainL (ns.map nD) = true := plainL_map fun a _ => rfl
    have h2 : D.depthL (ns.map nD) ≤ 60 := depthL_map fun a _ => by simp [D.depth]
    simp only [cmP, inP, g, h1, h2, D.plain, D.depth, memb_nat]
    simp
/-! ### sorting -/
theorem alikeL_map {α : Type} {f : α → D} (h : ∀ a b, D.alike (f a) (f b) = true) : ∀ l m : List α, D.alikeL (l.map f) (m.map f) = true
  | [], _ => by simp [D.alikeL]
  | _ :: _, [] => by simp [D.alikeL]
  | a :: l, b :: m => by rw [List.map_cons, List.map_cons, D.alikeL, h a b, alikeL_map h l m]; rfl
theorem alike_lot (a b : List Nat) : D.alike (lotD a) (lotD b) = true := by rw [D.alike]; exact alikeL_map (fun a b => rfl) a b
theorem allAlike_map {α : Type} {f : α → D} (h : ∀ a b, D.alike (f a) (f b) = true) (l : List α) : allAlike (l.map f) = true := by
  unfold allAlike
  rw [List.all_eq_true]
  intro x hx
  obtain ⟨a, _, rfl⟩ := List.mem_map.mp hx
  rw [List.all_eq_true]
  intro y hy
  obtain ⟨b, _, rfl⟩ := List.mem_map.mp hy
  exact h a b
theorem okSort_nat (l : List Nat) : okSort (l.map nD) = true := by
  have h1 : D.plainL (l.map nD) = true := plainL_map fun a _ => rfl
  have h2 : D.depthL (l.map nD) ≤ 60 := depthL_map fun a _ => by simp [D.depth]
  have h3 := allAlike_map (f := nD) (fun a b => rfl) l
  have h4 : (l.map nD).all (fun d => !isTup d && decide (d ≠ .non)) = true := by
    rw [List.all_eq_true]
    intro x hx
    obtain ⟨a, _, rfl⟩ := List.mem_map.mp hx
    rfl
  unfold okSort
  rw [h1, h3, decide_eq_true h2, h4, Bool.or_true]; rfl
theorem okSort_tup {α : Type} {f : α → D} (ha : ∀ a b, D.alike (f a) (f b) = true) (hp : ∀ a, (f a).good 60) (ht : ∀ a, isTup (f a) = true) (l : List α) : okSort (l.map f) = true := by
  have h1 : D.plainL (l.map f) = true := plainL_map fun a _ => (hp a).1
  have h2 : D.depthL (l.map f) ≤ 60 := depthL_map fun a _ => (hp a).2
  have h3 := allAlike_map ha l
  have h4 : (l.map f).all isTup = true := by
    rw [List.all_eq_true]
    intro x hx
    obtain ⟨a, _, rfl⟩ := List.mem_map.mp hx
    exact ht a
  unfold okSort
  rw [h1, h3, decide_eq_true h2, h4]; rfl
theorem okSort_lots (l : List (List Nat)) : okSort (l.map lotD) = true := okSort_tup alike_lot (fun a => good_up (good_lot a (k := 0)) (by decide)) (fun _ => rfl) l
theorem b_sortT (xs : List D) (h : okSort xs = true) : bi1 .sorted S (.val (.tup xs)) = .ok (.fresh (sortD xs)) S := by simp only [bi1, bg_tup, h, if_true]
theorem b_sortF (xs : List D) (h : okSort xs = true) : bi1 .sorted S (.fresh xs) = .ok (.fresh (sortD xs)) S := by simp only [bi1, bg_fresh, h, if_true]
theorem b_sortR (hl : S[l]? = some (.lst xs)) (h : okSort xs = true) : bi1 .sorted S (.val (.ref l)) = .ok (.fresh (sortD xs)) S := by simp only [bi1, bg_ref hl, h, if_true]
theorem b_sortD (hl : S[l]? = some (.dct lk kvs)) (h : okSort (kvs.map (·.1)) = true) : bi1 .sorted S (.val (.ref l)) = .ok (.fresh (sortD (kvs.map (·.1)))) S := by simp only [bi1, bg_dct hl, h, if_true]
theorem op_addRF {ys : List D} (h : S[l]? = some (.lst xs)) (hf : (xs ++ ys).length ≤ lim) : opB .add S (.val (.ref l)) (.fresh ys) = .ok (.fresh (xs ++ ys)) S := by
  have e : fits (xs ++ ys) = true := by simpa [fits] using hf
  simp only [opB, Pv.mutItems, h, e, if_true]
theorem op_addFF {xs ys : List D} (hf : (xs ++ ys).length ≤ lim) : opB .add S (.fresh xs) (.fresh ys) = .ok (.fresh (xs ++ ys)) S := by
  have e : fits (xs ++ ys) = true := by simpa [fits] using hf
  simp only [opB, Pv.mutItems, e, if_true]
/-! ### comprehensions over two sources -/
theorem lcRun2_map {ι : Type} {hs : List (Nat × O)} {f : D → Sto → Rs (List D)} {enc : ι → D} (g : ι → List D) (hh : heldOk hs S = true) : ∀ {as : List ι}, (∀ a ∈ as, f (enc a) S = .ok (g a) S) → lcRun2 hs f (as.map enc) S = .ok (as.flatMap g) S
  | [], _ => by rw [List.map_nil, lcRun2, if_pos hh]; rfl
  | a :: as, h => by
    rw [List.map_cons, lcRun2, if_pos hh, h a List.mem_cons_self, bind_ok, lcRun2_map g hh fun b hb => h b (List.mem_cons_of_mem _ hb), bind_ok]; rfl
def lc2Step (C : Call) (tg : Tg) (own : List Nat) (ifs : List E) (tg2 : Tg) (q2 : E) (ifs2 : List E) (elt : E) (σ : Env) (x : D) (S : Sto) : Rs (List D) :=
  match bindTg tg x (wipe σ own) with
  | some σ1 => (evi C ifs σ1 S).bind fun b S2 => if b then (ev C q2 σ1 S2).bind fun p2 S3 => match p2.lock S3 with
      | some _ => .no
      | none => match p2.items S3 with
        | some zs => lcRun (p2.held S3) (fun z S => match bindTg tg2 z (wipe σ1 tg2.slots) with
          | some σ2 => (evi C ifs2 σ2 S).bind fun b S4 => if b then (ev C elt σ2 S4).bind fun r S5 => (r.toVal S5).bind fun y S6 => .ok (some y) S6 else .ok none S4
          | none => .no) zs S3
        | none => .no
    else .ok [] S2
  | none => .no
theorem lc2Step_all {κ : Type} {tg tg2 : Tg} {own : List Nat} {q2 elt : E} {x : D} {bs : List κ} {enc2 : κ → D} {v : κ → D} {zs : List D} (hb : bindTg tg x (wipe σ own) = some σ1) (hq : ev C q2 σ1 S = .ok p S) (hl : p.lock S = none) (hi : p.items S = some zs) (hz : zs = bs.map enc2) (hh : heldOk (p.held S) S = true)
    (h : ∀ z ∈ bs, lcStep C tg2 tg2.slots [] elt σ1 (enc2 z) S = .ok (some (v z)) S) : lc2Step C tg own [] tg2 q2 [] elt σ x S = .ok (bs.map v) S := by
  unfold lc2Step
  simp only [hb, evi, bind_ok, if_true, hq, hl, hi]
  subst hz
  have h2 := lcRun_map (hs := p.held S) v hh h
  exact h2
theorem r_lc2 {ι : Type} {tg tg2 : Tg} {own : List Nat} {elt q2 : E} {as : List ι} {enc : ι → D} {xs : List D} (g : ι → List D) (hq : ev C e σ S = .ok p S1) (hi : p.items S1 = some xs) (hx : xs = as.map enc) (hl : p.lock S1 = none) (hh : heldOk (p.held S1) S1 = true) (hf : (as.flatMap g).length ≤ lim)
    (h : ∀ a ∈ as, lc2Step C tg own [] tg2 q2 [] elt σ (enc a) S1 = .ok (g a) S1) : ev C (.lc2 own elt tg e [] tg2 q2 []) σ S = .ok (.fresh (as.flatMap g)) S1 := by
  rw [ev, hq, bind_ok, hi]
  have e1 : p.lockS S1 = S1 := by unfold Pv.lockS; rw [hl]
  have e2 := lcRun2_map (hs := p.held S1) g hh h
  simp only [hl, e1, unl_none]
  subst hx
  refine (congrArg (fun r : Rs (List D) => r.calm.bind fun ys S2 => if fits ys then Rs.ok (Pv.fresh ys) S2 else .no) e2).trans ?_
  have e3 : fits (as.flatMap g) = true := by simpa [fits] using hf
  simp only [calm_ok, bind_ok, e3, if_true]
end
theorem rngL1 (n : Nat) : rngL 1 ((n : Int) + 1) = (List.range n).map fun a => nD (a + 1) := by
  unfold rngL
  rw [rng_map]
  have : ((n : Int) + 1 - 1).toNat = n := by omega
  rw [this]
  refine List.map_congr_left fun i _ => ?_
  show D.int (1 + (i : Int)) = D.int ((i + 1 : Nat) : Int)
  congr 1
  omega
end Nog

set_option Elab.async false
set_option linter.all false
set_option maxRecDepth 100000
set_option maxHeartbeats 2000000
/-! webs and ranks as they stand in the store -/
namespace Nog
abbrev wpD (p : List Nat × Sd) : D := .tup [lotD p.1, stD p.2]
/-- sizes that the machine bears -/
structure Bk.Sm (b : Bk) : Prop where
  n : b.n ≤ 6
  rows : ∀ pre post, b.cs = pre ++ post → (rowsL pre).length ≤ 1048576
  sts : b.stds.length * 64 ≤ 1048576
  his : ∀ c ∈ b.cs, c.2 ≤ 1048576
  wks : b.wk.length ≤ 1048576
structure WebAt (S : Sto) (l : Nat) (N : List Sd) (W : Sd → List (List Nat × Sd)) (adr : Sd → Nat) : Prop where
  d : S[l]? = some (.dct false (kvD stD (N.map fun s => (s, D.ref (adr s)))))
  ls : ∀ s ∈ N, S[adr s]? = some (.lst ((W s).map wpD))
theorem WebAt.app {S : Sto} {l : Nat} {N : List Sd} {W : Sd → List (List Nat × Sd)} {adr : Sd → Nat} (w : WebAt S l N W adr) (T : Sto) : WebAt (S ++ T) l N W adr := ⟨look_app w.d T, fun s hs => look_app (w.ls s hs) T⟩
def maxl (l : List Nat) : Nat := l.foldl max 0
structure RanksAt (S : Sto) (l : Nat) (N : List Sd) (W : Sd → List (List Nat × Sd)) (Z : List Sd) (rk : Sd → Nat) : Prop where
  d : S[l]? = some (.dct false (kvD stD (Z.map fun s => (s, nD (rk s)))))
  nd : Z.Nodup
  sub : ∀ s ∈ Z, s ∈ N
  dead : ∀ s ∈ N, s ∈ Z ↔ Dead W s
  rk : ∀ s ∈ Z, rk s = maxl ((W s).map fun p => rk p.2 + 1)
/-! ### places in a store -/
section
variable {S As r : Sto} {a b : O} {i j : Nat}
theorem kget0 : (S ++ (a :: r))[S.length]? = some a := by simp
theorem kgetA (h : i < As.length) : (S ++ (a :: (As ++ r)))[S.length + 1 + i]? = As[i]? := by
  rw [List.getElem?_append_right (by omega), show S.length + 1 + i - S.length = i + 1 by omega, List.getElem?_cons_succ, List.getElem?_append_left h]
theorem kgetR : (S ++ (a :: (As ++ r)))[S.length + 1 + As.length + j]? = r[j]? := by
  rw [List.getElem?_append_right (by omega), show S.length + 1 + As.length + j - S.length = As.length + j + 1 by omega, List.getElem?_cons_succ, List.getElem?_append_right (by omega), Nat.add_sub_cancel_left]
theorem kset0 : (S ++ (a :: r)).set S.length b = S ++ (b :: r) := by
  rw [List.set_append_right _ _ (Nat.le_refl _), Nat.sub_self, List.set_cons_zero]
theorem ksetA (h : i < As.length) : (S ++ (a :: (As ++ r))).set (S.length + 1 + i) b = S ++ (a :: (As.set i b ++ r)) := by
  rw [List.set_append_right _ _ (by omega), show S.length + 1 + i - S.length = i + 1 by omega, List.set_cons_succ, List.set_append_left _ _ h]
theorem ksetR : (S ++ (a :: (As ++ r))).set (S.length + 1 + As.length + j) b = S ++ (a :: (As ++ r.set j b)) := by
  rw [List.set_append_right _ _ (by omega), show S.length + 1 + As.length + j - S.length = As.length + j + 1 by omega, List.set_cons_succ, List.set_append_right _ _ (by omega), Nat.add_sub_cancel_left]
end
section
variable {κ : Type} [DecidableEq κ]
def pos (N : List κ) (s : κ) : Nat := N.idxOf s
theorem idx_split {N pre post : List κ} {a : κ} (h : N = pre ++ a :: post) (hn : N.Nodup) : pos N a = pre.length := by
  unfold pos
  subst h
  rw [List.nodup_append] at hn
  rw [List.idxOf_append, if_neg (fun hx => hn.2.2 a hx a List.mem_cons_self rfl), List.idxOf_cons_self, Nat.zero_add]
theorem idx_ne {b a : κ} {N : List κ} (h : b ≠ a) : (b :: N).idxOf a = N.idxOf a + 1 := by
  have e : (b == a) = false := by rw [beq_eq_false_iff_ne]; exact h
  rw [List.idxOf_cons, e]; rfl
theorem map_idx {β : Type} {N : List κ} (f : κ → β) {a : κ} (h : a ∈ N) : (N.map f)[pos N a]? = some (f a) := by
  unfold pos
  rw [List.getElem?_map, List.getElem?_eq_getElem (List.idxOf_lt_length_of_mem h), List.getElem_idxOf]; rfl
theorem map_set {β : Type} (f : κ → β) {a : κ} (v : β) : ∀ {N : List κ}, N.Nodup → a ∈ N → (N.map f).set (pos N a) v = N.map fun s => if s = a then v else f s
  | [], _, h => by cases h
  | b :: N, hn, h => by
    rw [List.nodup_cons] at hn
    by_cases e : b = a
    · subst e
      rw [pos, List.idxOf_cons_self, List.map_cons, List.set_cons_zero, List.map_cons, if_pos rfl]
      congr 1
      refine List.map_congr_left fun s hs => ?_
      rw [if_neg (fun e => by subst e; exact hn.1 hs)]
    · rw [pos, idx_ne e, List.map_cons, List.set_cons_succ, List.map_cons, if_neg e, ← pos, map_set f v hn.2 ((List.mem_cons.mp h).resolve_left (fun q => e q.symm))]
end
theorem pos_lt {κ : Type} [DecidableEq κ] {N : List κ} {a : κ} (h : a ∈ N) : pos N a < N.length := List.idxOf_lt_length_of_mem h
/-! ### max(.., default=0) -/
theorem maxD_nat : ∀ (l : List Nat) (x : Nat), maxD (nD x) (l.map nD) = nD (l.foldl max x)
  | [], x => rfl
  | y :: l, x => by
    rw [List.map_cons, maxD, List.foldl_cons]
    have e : (if D.ltb (nD x) (nD y) = true then nD y else nD x) = nD (max x y) := by
      simp only [D.ltb, decide_eq_true_eq]
      by_cases h : (x : Int) < (y : Int)
      · rw [if_pos h, Nat.max_eq_right (by omega)]
      · rw [if_neg h, Nat.max_eq_left (by omega)]
    rw [e, maxD_nat l]
theorem okMax_nat (l : List Nat) : okMax (l.map nD) = true := by
  have h1 : D.plainL (l.map nD) = true := plainL_map fun a _ => rfl
  have h2 : D.depthL (l.map nD) ≤ 60 := depthL_map fun a _ => by simp [D.depth]
  have h3 := allAlike_map (f := nD) (fun a b => rfl) l
  have h4 : (l.map nD).all (fun d => decide (d ≠ .non)) = true := by
    rw [List.all_eq_true]
    intro x hx
    obtain ⟨a, _, rfl⟩ := List.mem_map.mp hx
    rfl
  unfold okMax
  rw [h1, h3, decide_eq_true h2, h4]; rfl
theorem mxd_nat {S : Sto} (l : List Nat) : mxdP .max S (.fresh (l.map nD)) (.int 0) = .ok (.val (nD (maxl l))) S := by
  cases l with
  | nil => rfl
  | cons x l =>
    have h := okMax_nat (x :: l)
    rw [List.map_cons] at h ⊢
    simp only [mxdP, sq_fresh, h, if_true, maxD_nat]
    show Rs.ok (Pv.val (nD (l.foldl max x))) S = Rs.ok (Pv.val (nD ((x :: l).foldl max 0))) S
    rw [List.foldl_cons, Nat.zero_max]
theorem r_mxd {C : Call} {σ : Env} {S S1 S2 S3 : Sto} {u : Bi} {a c : E} {p q : Pv} {d : D} (h : ev C a σ S = .ok p S1) (h1 : ev C c σ S1 = .ok (.val d) S2) (h2 : mxdP u S2 p d = .ok q S3) : ev C (.mxd u a c) σ S = .ok q S3 := by rw [ev, h, bind_ok, h1, bind_ok]; exact h2
/-! ### moving up -/
theorem shift_map {α : Type} {f g : α → D} {k : Nat} (h : ∀ a, D.shift k (f a) = g a) : ∀ l : List α, D.shiftL k (l.map f) = l.map g
  | [] => by rw [List.map_nil, D.shiftL]; rfl
  | a :: l => by rw [List.map_cons, D.shiftL, h a, shift_map h l]; rfl
@[simp] theorem shift_int (k : Nat) (i : Int) : D.shift k (.int i) = .int i := by rw [D.shift]; all_goals (intros; contradiction)
@[simp] theorem shift_ref (k l : Nat) : D.shift k (.ref l) = .ref (l + k) := by rw [D.shift]
theorem shift_lot (k : Nat) (l : List Nat) : D.shift k (lotD l) = lotD l := by rw [D.shift, shift_map (g := nD) (fun a => shift_int k a)]
theorem shift_st (k : Nat) (s : Sd) : D.shift k (stD s) = stD s := by
  rw [D.shift, D.shiftL, D.shiftL, D.shiftL, shift_int, shift_lot]
theorem shift_wp (k : Nat) (p : List Nat × Sd) : D.shift k (wpD p) = wpD p := by
  rw [D.shift, D.shiftL, D.shiftL, D.shiftL, shift_lot, shift_st]
theorem shift_at {S S1 : Sto} {l : Nat} {o : O} (h : S1[l]? = some o) : (S ++ S1.map (O.shift S.length))[l + S.length]? = some (O.shift S.length o) := by
  rw [List.getElem?_append_right (by omega), Nat.add_sub_cancel, List.getElem?_map, h]; rfl
theorem WebAt.shift {S S1 : Sto} {l : Nat} {N : List Sd} {W : Sd → List (List Nat × Sd)} {adr : Sd → Nat} (w : WebAt S1 l N W adr) : WebAt (S ++ S1.map (O.shift S.length)) (l + S.length) N W (fun s => adr s + S.length) := by
  refine ⟨(shift_at w.d).trans ?_, fun s hs => (shift_at (w.ls s hs)).trans ?_⟩
  · rw [O.shift]
    congr 2
    unfold kvD
    rw [List.map_map, List.map_map, List.map_map]
    refine List.map_congr_left fun s _ => ?_
    show (D.shift _ (stD s), D.shift _ (.ref (adr s))) = _
    rw [shift_st, shift_ref]; rfl
  · rw [O.shift, shift_map (g := wpD) (fun p => shift_wp _ p)]
section
variable {P : List Fn} {m k : Nat} {f : Fn} {as : List D} {S : Sto} {d : D}
/-- a call of its own that hands back an object -/
theorem callOR {R : Sto → Prop} (hf : P[k]? = some f) (hm : f.mode = .own) (hn : as.length = f.np) (hp : D.plainL as = true) (hd : d.plain = false) (hr : Wp (callN P m) f.body (envOf f as) [] fun r => ∃ S1, r.fin = .ok d S1 ∧ R S1) :
    ∃ S1, callN P (m + 1) k as S = .ok (d.shift S.length) (S ++ S1.map (O.shift S.length)) ∧ R S1 := by
  obtain ⟨S1, h1, h2⟩ := wp_of hr
  exact ⟨S1, call_ownR hf hm hn hp hd h1, h2⟩
theorem callR (hf : P[k]? = some f) (hm : f.mode = .raw) (hn : as.length = f.np) {Q : Rs D → Prop} (hr : Wp (callN P m) f.body (envOf f as) S fun r => Q r.fin) : Q (callN P (m + 1) k as S) := by
  rw [call_raw hf hm hn]; exact wp_of hr
end
end Nog

set_option Elab.async false
set_option linter.all false
set_option maxRecDepth 100000
set_option maxHeartbeats 2000000
/-! mending: plain -/
namespace Nog
noncomputable def Bk.liveB (b : Bk) (s : Sd) : Bool := @decide (¬ Dead b.web s) (Classical.propDecidable _)
theorem Bk.liveB_iff {b : Bk} {s : Sd} : b.liveB s = true ↔ ¬ Dead b.web s := by
  unfold Bk.liveB
  rw [@decide_eq_true_eq _ (Classical.propDecidable _)]
noncomputable def Bk.liv (b : Bk) : List Sd := liveL b.web b.stds
theorem Bk.mem_liv {b : Bk} {s : Sd} : s ∈ b.liv ↔ s ∈ b.stds ∧ b.liveB s = true := by unfold Bk.liv; rw [mem_liveL, Bk.liveB_iff]
theorem Bk.web_len {b : Bk} (hn : b.n ≤ 6) (s : Sd) : (b.web s).length ≤ 64 := by
  unfold Bk.web Bk.lets allLots
  rw [List.length_map]
  refine Nat.le_trans (List.length_filter_le ..) ?_
  rw [lots_len]
  exact Nat.pow_le_pow_right (by decide) hn
def Bk.late (b : Bk) : Bk := ⟨b.cs.map fun c => (c.1, c.2 + 1), b.wk⟩
def Bk.mnxt (b : Bk) (s : Sd) (l : List Nat) : Sd := ((s.1 + 1) % b.wk.length, (List.range b.n).map fun i => if i ∈ l then 1 else min (age s i + 1) (b.hi i + 1))
theorem Bk.late_n (b : Bk) : b.late.n = b.n := List.length_map ..
theorem Bk.late_hi {b : Bk} {i : Nat} (h : i < b.n) : b.late.hi i = b.hi i + 1 := by
  unfold Bk.late Bk.hi
  have h2 : i < b.cs.length := h
  simp only [List.getD_eq_getElem?_getD, List.getElem?_map, List.getElem?_eq_getElem h2, Option.map_some, Option.getD_some]
theorem Bk.late_ok {b : Bk} {s : Sd} : b.late.stOk 0 s ↔ b.stOk 1 s := by
  unfold Bk.stOk
  rw [Bk.late_n]
  refine ⟨fun ⟨h1, h2, h3⟩ => ⟨h1, h2, fun i hi => ?_⟩, fun ⟨h1, h2, h3⟩ => ⟨h1, h2, fun i hi => ?_⟩⟩
  · have := h3 i hi
    rw [Bk.late_hi hi] at this
    exact this
  · rw [Bk.late_hi hi]; exact h3 i hi
theorem Bk.mem_lates {b : Bk} {s : Sd} : s ∈ b.late.stds ↔ b.stOk 1 s := Bk.mem_stds.trans Bk.late_ok
theorem Bk.mnxt_ok {b : Bk} (hw : 0 < b.wk.length) {s : Sd} (l : List Nat) (hs : b.stOk 1 s) : b.stOk 1 (b.mnxt s l) := by
  obtain ⟨h1, h2, h3⟩ := hs
  refine ⟨Nat.mod_lt _ hw, by simp [Bk.mnxt], fun i hi => ?_⟩
  unfold Bk.mnxt
  rw [age_map hi]
  have := h3 i hi
  split <;> omega
abbrev Row := List (List Nat)
abbrev Qu := List (Sd × Row)
/-- one lot more of the search -/
def addN (nx : Sd → List Nat → Sd) (h : Sd) (row : Row) (q : Qu) (l : List Nat) : Qu := if nx h l ∈ q.map (·.1) then q else q ++ [(nx h l, row ++ [l])]
def bfs (live : Sd → Bool) (lots : Sd → Row) (nx : Sd → List Nat → Sd) : Nat → Qu → Nat → Option Row
  | 0, _, _ => none
  | k + 1, q, a => match q[a]? with
    | none => none
    | some (h, row) => if live h then some row else bfs live lots nx k ((lots h).foldl (addN nx h row) q) (a + 1)
structure QuI (N : List Sd) (q : Qu) : Prop where
  nd : (q.map (·.1)).Nodup
  sub : ∀ p ∈ q, p.1 ∈ N
  ln : ∀ p ∈ q, p.2.length < q.length
section
variable {N : List Sd} {nx : Sd → List Nat → Sd} {q : Qu} {h : Sd} {row : Row}
theorem addN_len (l : List Nat) : q.length ≤ (addN nx h row q l).length := by
  unfold addN
  split
  · exact Nat.le_refl _
  · rw [List.length_append]; omega
theorem addN_qi (i : QuI N q) {l : List Nat} (hn : nx h l ∈ N) (hr : row.length < q.length) : QuI N (addN nx h row q l) := by
  unfold addN
  split
  · exact i
  · rename_i hx
    refine ⟨?_, fun p hp => ?_, fun p hp => ?_⟩
    · rw [List.map_append, List.nodup_append]
      exact ⟨i.nd, by simp, fun a ha b hb e => by
        rw [List.map_cons, List.map_nil, List.mem_singleton] at hb
        subst e hb
        exact hx ha⟩
    · rcases List.mem_append.mp hp with hp | hp
      · exact i.sub p hp
      · rw [List.mem_singleton.mp hp]; exact hn
    · rw [List.length_append, List.length_singleton]
      rcases List.mem_append.mp hp with hp | hp
      · have := i.ln p hp; omega
      · rw [List.mem_singleton.mp hp, List.length_append, List.length_singleton]; omega
theorem QuI.len (i : QuI N q) : q.length ≤ N.length := by
  have := List.Nodup.length_le_of_subset (l₁ := q.map (·.1)) (l₂ := N) i.nd fun s hs => by
    obtain ⟨p, hp, rfl⟩ := List.mem_map.mp hs
    exact i.sub p hp
  rwa [List.length_map] at this
theorem addN_pre (l : List Nat) : q <+: addN nx h row q l := by
  unfold addN
  split
  · exact List.prefix_refl _
  · exact List.prefix_append ..
theorem fold_pre : ∀ {ls : Row} {q : Qu}, q <+: ls.foldl (addN nx h row) q
  | [], _ => List.prefix_refl _
  | l :: ls, q => (addN_pre l).trans fold_pre
/-- where a row leads -/
def walkN (lots : Sd → Row) (nx : Sd → List Nat → Sd) : Sd → Row → Option Sd
  | s, [] => some s
  | s, l :: r => if l ∈ lots s then walkN lots nx (nx s l) r else none
variable {lots : Sd → Row} {live : Sd → Bool}
theorem walk_snoc : ∀ {r : Row} {s t : Sd} {l : List Nat}, walkN lots nx s r = some t → l ∈ lots t → walkN lots nx s (r ++ [l]) = some (nx t l)
  | [], s, t, l, h, hl => by
    cases h
    rw [List.nil_append, walkN, if_pos hl, walkN]
  | m :: r, s, t, l, h, hl => by
    rw [walkN] at h
    split at h
    · rename_i hm
      rw [List.cons_append, walkN, if_pos hm]
      exact walk_snoc h hl
    · cases h
theorem addN_path {s0 : Sd} {l : List Nat} (hp : ∀ p ∈ q, walkN lots nx s0 p.2 = some p.1) (hr : walkN lots nx s0 row = some h) (hl : l ∈ lots h) : ∀ p ∈ addN nx h row q l, walkN lots nx s0 p.2 = some p.1 := by
  unfold addN
  split
  · exact hp
  · intro p hp'
    rcases List.mem_append.mp hp' with e | e
    · exact hp p e
    · rw [List.mem_singleton.mp e]
      exact walk_snoc hr hl
theorem fold_path {s0 : Sd} (hr : walkN lots nx s0 row = some h) : ∀ {ls : Row} {q : Qu}, (∀ l ∈ ls, l ∈ lots h) → (∀ p ∈ q, walkN lots nx s0 p.2 = some p.1) → ∀ p ∈ ls.foldl (addN nx h row) q, walkN lots nx s0 p.2 = some p.1
  | [], _, _, hp => hp
  | l :: ls, _, hl, hp => fold_path (ls := ls) hr (fun m hm => hl m (List.mem_cons_of_mem _ hm)) (addN_path hp hr (hl l List.mem_cons_self))
theorem bfs_path {s0 : Sd} : ∀ {k : Nat} {q : Qu} {a : Nat} {r : Row}, (∀ p ∈ q, walkN lots nx s0 p.2 = some p.1) → bfs live lots nx k q a = some r → ∃ t, live t = true ∧ walkN lots nx s0 r = some t
  | 0, _, _, _, _, h => by cases h
  | k + 1, q, a, r, hp, h => by
    rw [bfs] at h
    cases e : q[a]? with
    | none => rw [e] at h; cases h
    | some p =>
      obtain ⟨t, row⟩ := p
      rw [e] at h
      dsimp only at h
      have hm := hp _ (List.mem_of_getElem? e)
      split at h
      · rename_i hl
        cases h
        exact ⟨t, hl, hm⟩
      · exact bfs_path (fold_path hm (fun l hl => hl) hp) h
end
theorem fold_qi2 {N : List Sd} {nx : Sd → List Nat → Sd} {h : Sd} {row : Row} : ∀ {ls : Row} {q : Qu}, QuI N q → (∀ l ∈ ls, nx h l ∈ N) → row.length < q.length → QuI N (ls.foldl (addN nx h row) q)
  | [], _, i, _, _ => i
  | l :: ls, _, i, hn, hr => fold_qi2 (ls := ls) (addN_qi i (hn l List.mem_cons_self) hr) (fun m hm => hn m (List.mem_cons_of_mem _ hm)) (Nat.lt_of_lt_of_le hr (addN_len l))
theorem bfs_len {N : List Sd} {nx : Sd → List Nat → Sd} {lots : Sd → Row} {live : Sd → Bool} (hN : ∀ s ∈ N, ∀ l ∈ lots s, nx s l ∈ N) : ∀ {k : Nat} {q : Qu} {a : Nat} {r : Row}, QuI N q → bfs live lots nx k q a = some r → r.length < N.length
  | 0, _, _, _, _, h => by cases h
  | k + 1, q, a, r, i, h => by
    rw [bfs] at h
    cases e : q[a]? with
    | none => rw [e] at h; cases h
    | some p =>
      obtain ⟨t, row⟩ := p
      rw [e] at h
      dsimp only at h
      have hm := List.mem_of_getElem? e
      have hl := i.ln _ hm
      split at h
      · cases h
        exact Nat.lt_of_lt_of_le hl i.len
      · exact bfs_len hN (fold_qi2 i (fun l hl => hN _ (i.sub _ hm) l hl) hl) h
/-- the first row that mends -/
noncomputable def Bk.mendR (b : Bk) (s : Sd) : Option Row := bfs (fun t => decide (t ∈ b.liv)) b.lets b.mnxt (b.late.stds.length + 1) [(s, [])] 0
theorem Bk.mendR_path {b : Bk} {s : Sd} {r : Row} (h : b.mendR s = some r) : ∃ t, t ∈ b.liv ∧ walkN b.lets b.mnxt s r = some t := by
  obtain ⟨t, h1, h2⟩ := bfs_path (s0 := s) (fun p hp => by rw [List.mem_singleton.mp hp]; rfl) h
  exact ⟨t, of_decide_eq_true h1, h2⟩
theorem Bk.mendR_len {b : Bk} (hw : 0 < b.wk.length) {s : Sd} {r : Row} (hs : b.stOk 1 s) (h : b.mendR s = some r) : r.length < b.late.stds.length :=
  bfs_len (fun s hs l _ => Bk.mem_lates.mpr (Bk.mnxt_ok hw l (Bk.mem_lates.mp hs))) ⟨by simp, fun p hp => by rw [List.mem_singleton.mp hp]; exact Bk.mem_lates.mpr hs, fun p hp => by rw [List.mem_singleton.mp hp]; exact Nat.zero_lt_one⟩ h
theorem Bk.mendR_live {b : Bk} {s : Sd} (h : s ∈ b.liv) : b.mendR s = some [] := by
  unfold Bk.mendR
  rw [bfs]
  simp [h]
theorem walk_ok {b : Bk} (hw : 0 < b.wk.length) : ∀ {r : Row} {s t : Sd}, b.stOk 1 s → walkN b.lets b.mnxt s r = some t → b.stOk 1 t
  | [], s, t, hs, h => by cases h; exact hs
  | l :: r, s, t, hs, h => by
    rw [walkN] at h
    split at h
    · exact walk_ok hw (Bk.mnxt_ok hw l hs) h
    · cases h
end Nog

set_option Elab.async false
set_option linter.all false
set_option maxRecDepth 100000
set_option maxHeartbeats 2000000
/-! calls that hand back a list, small rules -/
namespace Nog
section
variable {P : List Fn} {m k : Nat} {f : Fn} {as : List D} {S : Sto}
/-- the call hands back a new list -/
def GivesL (r : Rs D) (S : Sto) (xs : List D) : Prop := ∃ l T, r = .ok (.ref l) (S ++ T) ∧ (S ++ T)[l]? = some (.lst xs) ∧ S.length ≤ l
theorem callOL {α : Type} {h : α → D} {xs : List α} (hf : P[k]? = some f) (hm : f.mode = .own) (hn : as.length = f.np) (hp : D.plainL as = true) (hs : ∀ j a, D.shift j (h a) = h a)
    (hr : Wp (callN P m) f.body (envOf f as) [] fun r => ∃ l S1, r.fin = .ok (.ref l) S1 ∧ S1[l]? = some (.lst (xs.map h))) : GivesL (callN P (m + 1) k as S) S (xs.map h) := by
  obtain ⟨l, S1, h1, h2⟩ := wp_of hr
  refine ⟨l + S.length, S1.map (O.shift S.length), ?_, (shift_at h2).trans ?_, by omega⟩
  · have := call_ownR (S := S) hf hm hn hp rfl h1
    rw [shift_ref] at this
    exact this
  · rw [O.shift, shift_map (g := h) (fun a => hs _ a)]
end
section
variable {C : Call} {σ σ1 σ2 : Env} {S S1 S2 S3 S4 : Sto} {p q r : Pv} {d : D} {e a b c : E} {es : List E} {l : Nat} {xs : List D}
theorem r_chn {o o' : Cm} {t u : Bool} (h : ev C a σ S = .ok p S1) (h1 : ev C b σ S1 = .ok q S2) (h2 : cmP o S2 p q = some t) (h3 : t = true → ∃ r, ev C c σ S2 = .ok r S2 ∧ cmP o' S2 q r = some u) : ev C (.chn o o' a b c) σ S = .ok (.val (.bl (t && u))) S2 := by
  rw [ev, h, bind_ok, h1, bind_ok, h2]
  cases t
  · rfl
  · obtain ⟨r, g1, g2⟩ := h3 rfl
    simp only [g1, bind_ok, g2]
    rfl
theorem r_ext {ys : List D} (h : ev C a σ S = .ok (.val (.ref l)) S1) (hl : S1[l]? = some (.lst xs)) (h1 : ev C b σ S1 = .ok (.fresh ys) S1) (hf : (xs ++ ys).length ≤ lim) : ev C (.ext a b) σ S = .ok (.val .non) (S1.set l (.lst (xs ++ ys))) := by
  have e1 : fits (xs ++ ys) = true := by simpa [fits] using hf
  have e2 : (Pv.val (.ref l)).isLs S1 = true := by simp only [Pv.isLs, hl]
  rw [ev, h, bind_ok, if_pos e2, h1, bind_ok]
  simp only [Pv.mutItems, extP, hl, e1, Pv.isRef]
  rfl
theorem op_shlI {i : Int} {j : Nat} (hi : i.natAbs < 2 ^ 64) (hj : j ≤ 1000000) : opB .shl S (.val (.int i)) (.val (nD j)) = .ok (.val (.int (i * 2 ^ j))) S := by
  have h : (decide (0 ≤ (j : Int)) && decide ((j : Int) ≤ 1000000) && decide (i.natAbs < 2 ^ 64)) = true := by
    rw [decide_eq_true (show (0 : Int) ≤ j by omega), decide_eq_true (show (j : Int) ≤ 1000000 by omega), decide_eq_true hi]; rfl
  simp only [opB, opI, h, if_true, Int.toNat_natCast]
theorem op_shrN {i j : Nat} : opB .shr S (.val (nD i)) (.val (nD j)) = .ok (.val (nD (i / 2 ^ j))) S := by
  have h : (0 : Int) ≤ (j : Int) := by omega
  simp only [opB, opI, h, if_true, Int.toNat_natCast]
  congr 3
theorem op_and1 {i : Nat} : opB .band S (.val (nD i)) (.val (.int 1)) = .ok (.val (nD (i % 2))) S := by
  have h : (decide (0 ≤ (i : Int)) && decide ((0 : Int) ≤ 1)) = true := by simp
  simp only [opB, opI, h, if_true, Int.toNat_natCast]
  rw [show (1 : Int).toNat = 1 from rfl, Nat.and_one_is_mod]
theorem testBit_div {c i : Nat} : c.testBit i = decide (c / 2 ^ i % 2 = 1) := by rw [Nat.testBit_eq_decide_div_mod_eq]
/-! ### isinstance -/
theorem isi_int (i : Int) (t : Ty) : isiP S (.val (.int i)) t = kdTy .int t := rfl
theorem isi_bl (i : Bool) (t : Ty) : isiP S (.val (.bl i)) t = kdTy .bl t := rfl
theorem isi_str (i : List Nat) (t : Ty) : isiP S (.val (.str i)) t = kdTy .str t := rfl
theorem isi_tup (i : List D) (t : Ty) : isiP S (.val (.tup i)) t = kdTy .tup t := rfl
theorem r_isi {t : Ty} {u : Bool} (h : ev C a σ S = .ok p S1) (h2 : isiP S1 p t = some u) : ev C (.isi a t) σ S = .ok (.val (.bl u)) S1 := by rw [ev, h, bind_ok, h2]; rfl
theorem cm_ne_self {d : D} (h : d.good 60) (h2 : D.eqb d d = true) : cmP .ne S (.val d) (.val d) = some false := by
  have : eqP S (.val d) (.val d) = some true := by
    unfold eqP
    have g := h.1
    have g2 := h.2
    cases d <;> simp_all [Pv.lstItems, D.plain]
  simp only [cmP, this]; rfl
mutual
theorem eqb_self : ∀ {d : D}, d.plain = true → D.eqb d d = true
  | .non, _ => rfl
  | .bl b, _ => by simp [D.eqb]
  | .int b, _ => by simp [D.eqb]
  | .str b, _ => by simp [D.eqb]
  | .tup ds, h => by rw [D.eqb]; exact eqbL_self (by simpa [D.plain] using h)
  | .ref _, h => by simp [D.plain] at h
  | .fn _, h => by simp [D.plain] at h
  | .rol _, h => by simp [D.plain] at h
theorem eqbL_self : ∀ {ds : List D}, D.plainL ds = true → D.eqbL ds ds = true
  | [], _ => rfl
  | d :: ds, h => by
    simp only [D.plainL, Bool.and_eq_true] at h
    rw [D.eqbL, eqb_self h.1, eqbL_self h.2]; rfl
end
mutual
/-- how much there is to compare -/
def D.sz : D → Nat
  | .tup xs => D.szL xs + 1
  | _ => 1
def D.szL : List D → Nat
  | [] => 0
  | x :: xs => D.sz x + D.szL xs
end
theorem szL_mem {x : D} : ∀ {xs : List D}, x ∈ xs → x.sz ≤ D.szL xs
  | _ :: _, h => by
    rw [D.szL]
    rcases List.mem_cons.mp h with rfl | h
    · omega
    · have := szL_mem h; omega
theorem szL_app (xs ys : List D) : D.szL (xs ++ ys) = D.szL xs + D.szL ys := by
  induction xs with
  | nil => rw [List.nil_append]; simp [D.szL]
  | cons x xs ih => rw [List.cons_append, D.szL, D.szL, ih]; omega
theorem sz_pos : ∀ d : D, 1 ≤ d.sz
  | .tup xs => by rw [D.sz]; omega
  | .non => by simp [D.sz]
  | .bl _ => by simp [D.sz]
  | .int _ => by simp [D.sz]
  | .str _ => by simp [D.sz]
  | .ref _ => by simp [D.sz]
  | .fn _ => by simp [D.sz]
  | .rol _ => by simp [D.sz]
theorem szL_len (xs : List D) : xs.length ≤ D.szL xs := by
  induction xs with
  | nil => exact Nat.zero_le _
  | cons x xs ih => rw [List.length_cons, D.szL]; have := sz_pos x; omega
end
end Nog

set_option Elab.async false
set_option linter.all false
set_option maxRecDepth 100000
set_option maxHeartbeats 2000000
/-! more rules; sizes; live standings by computing -/
namespace Nog
section
variable {C : Call} {σ σ1 σ2 : Env} {S S1 S2 S3 S4 : Sto} {p q r : Pv} {d : D} {e a b c : E} {es : List E} {l : Nat} {xs : List D} {ss : List St} {Q : Sr → Prop}
theorem w_augp {i : E} {o : Op} {x : D} {n : Int} (h : ev C a σ S = .ok p S1) (hi : ev C i σ S1 = .ok r S2) (hg : getQ S2 p r = some x) (he : ev C e σ S2 = .ok q S3) (hk : augK o x q = some n) (hp : putQ p r (.int n) S3 = .ok () S4) (k : Wp C ss σ S4 Q) : Wp C (.augp a i o e :: ss) σ S Q := by
  refine w_cons ?_
  rw [evS, h, st_ok, hi, st_ok, hg]
  dsimp only
  rw [he, st_ok, hk]
  dsimp only
  rw [hp, st_ok]
  exact k
theorem w_aug {i : Nat} {o : Op} {x : D} {n : Int} (h : σ[i]? = some (some x)) (he : ev C e σ S = .ok q S1) (hk : augK o x q = some n) (k : Wp C ss (σ.set i (some (.int n))) S1 Q) : Wp C (.aug i o e :: ss) σ S Q := by
  refine w_cons ?_
  rw [evS, h]
  dsimp only
  rw [he, st_ok, hk]
  exact k
theorem w_par {i j : Nat} {x y : D} (h : ev C a σ S = .ok (.val x) S1) (h2 : ev C b σ S1 = .ok (.val y) S2) (k : Wp C ss ((σ.set i (some x)).set j (some y)) S2 Q) : Wp C (.par i j a b :: ss) σ S Q := by
  refine w_cons ?_
  rw [evS, h, st_ok, toVal_val, st_ok, h2, st_ok, toVal_val, st_ok]
  exact k
/-- turns that draw -/
theorem lcRun_ex {ι : Type} {hs : List (Nat × O)} {f : D → Sto → Rs (Option D)} {enc : ι → D} (I : Sto → Prop) (P : D → Prop) (hh : ∀ S, I S → heldOk hs S = true) : ∀ {as : List ι} {S : Sto}, I S →
    (∀ a ∈ as, ∀ S, I S → ∃ y S', f (enc a) S = .ok (some y) S' ∧ I S' ∧ P y) → ∃ ys S', lcRun hs f (as.map enc) S = .ok ys S' ∧ I S' ∧ ys.length = as.length ∧ ∀ y ∈ ys, P y
  | [], S, h, _ => ⟨[], S, by rw [List.map_nil, lcRun, if_pos (hh S h)], h, rfl, fun y hy => by cases hy⟩
  | a :: as, S, h, hf => by
    obtain ⟨y, S1, h1, h2, h3⟩ := hf a List.mem_cons_self S h
    obtain ⟨ys, S2, g1, g2, g3, g4⟩ := lcRun_ex I P hh (as := as) h2 fun b hb => hf b (List.mem_cons_of_mem _ hb)
    refine ⟨y :: ys, S2, by rw [List.map_cons, lcRun, if_pos (hh S h), h1, bind_ok, g1, bind_ok], g2, by rw [List.length_cons, List.length_cons, g3], fun z hz => ?_⟩
    rcases List.mem_cons.mp hz with rfl | hz
    · exact h3
    · exact g4 z hz
theorem r_lcx {ι : Type} {tg : Tg} {own : List Nat} {elt : E} {as : List ι} {enc : ι → D} {xs : List D} (I : Sto → Prop) (P : D → Prop) (hq : ev C e σ S = .ok p S1) (hi : p.items S1 = some xs) (hx : xs = as.map enc) (hl : p.lock S1 = none) (hI : I S1) (hh : ∀ S, I S → heldOk (p.held S1) S = true)
    (h : ∀ a ∈ as, ∀ S, I S → ∃ y S', lcStep C tg own [] elt σ (enc a) S = .ok (some y) S' ∧ I S' ∧ P y) : ∃ ys S', ev C (.lc own elt tg e []) σ S = .ok (.fresh ys) S' ∧ I S' ∧ ys.length = as.length ∧ ∀ y ∈ ys, P y := by
  obtain ⟨ys, S2, g1, g2, g3, g4⟩ := lcRun_ex (hs := p.held S1) (f := lcStep C tg own [] elt σ) (enc := enc) I P hh hI h
  refine ⟨ys, S2, ?_, g2, g3, g4⟩
  rw [ev, hq, bind_ok, hi]
  have e1 : p.lockS S1 = S1 := by unfold Pv.lockS; rw [hl]
  simp only [hl, e1, unl_none]
  subst hx
  exact congrArg (fun r : Rs (List D) => r.calm.bind fun ys S2 => Rs.ok (Pv.fresh ys) S2) g1
theorem lcStep_st {tg : Tg} {own : List Nat} {elt : E} {x v : D} (hb : bindTg tg x (wipe σ own) = some σ1) (hv : ev C elt σ1 S = .ok (.val v) S1) :
    lcStep C tg own [] elt σ x S = .ok (some v) S1 := by
  unfold lcStep
  simp only [hb, evi, bind_ok, if_true, hv, toVal_val]
theorem rep_repl {α : Type} (x : α) : ∀ n, rep [x] n = List.replicate n x
  | 0 => rfl
  | n + 1 => by rw [rep, rep_repl x n]; rfl
theorem op_mulT {x : D} {n : Nat} (h : n ≤ 1000) : opB .mul S (.val (.tup [x])) (.val (nD n)) = .ok (.val (.tup (List.replicate n x))) S := by
  have e : (decide (-1000 ≤ (n : Int)) && decide ((n : Int) ≤ 1000) && decide ([x].length ≤ 1000)) = true := by
    rw [decide_eq_true (show -1000 ≤ (n : Int) by omega), decide_eq_true (show (n : Int) ≤ 1000 by omega)]; rfl
  simp only [opB, e, if_true, Int.toNat_natCast, rep_repl]
theorem r_sl {lo hi : E} {u v : Option Int} (h : ev C a σ S = .ok p S1) (h1 : ev C lo σ S1 = .ok q S2) (hu : partOf lo q = some u) (h2 : ev C hi σ S2 = .ok r S3) (hv : partOf hi r = some v) {p' : Pv} (h3 : slP S3 p u v = .ok p' S4) : ev C (.sl a lo hi) σ S = .ok p' S4 := by
  rw [ev, h, bind_ok, h1, bind_ok, hu]
  dsimp only
  rw [h2, bind_ok, hv]
  exact h3
theorem r_neg {i : Int} (h : ev C a σ S = .ok (.val (.int i)) S1) : ev C (.neg a) σ S = .ok (.val (.int (-i))) S1 := by rw [ev, h, bind_ok]
theorem sl_first (xs : List D) : slicL xs none (some 1) = xs.take 1 := by
  unfold slicL
  simp only [cutAt, List.drop_zero, Nat.sub_zero]
  cases xs with
  | nil => rfl
  | cons x xs => simp
theorem sl_last (xs : List D) : slicL xs (some (-1)) none = xs.drop (xs.length - 1) := by
  unfold slicL
  simp only [cutAt]
  rw [if_pos (by decide)]
  have e : ((-1 : Int) + (xs.length : Int)).toNat = xs.length - 1 := by omega
  rw [e, List.take_of_length_le (by rw [List.length_drop]; omega)]
theorem slP_fresh {u v : Option Int} (xs : List D) : slP S (.fresh xs) u v = .ok (.fresh (slicL xs u v)) S := rfl
theorem slP_ref {u v : Option Int} (h : S[l]? = some (.lst xs)) : slP S (.val (.ref l)) u v = .ok (.fresh (slicL xs u v)) S := by simp only [slP, ls_ref h]
end
theorem exists_map {α : Type} {f : α → D} {P : α → Prop} : ∀ {ys : List D}, (∀ y ∈ ys, ∃ a, y = f a ∧ P a) → ∃ as : List α, ys = as.map f ∧ ∀ a ∈ as, P a
  | [], _ => ⟨[], rfl, fun a h => by cases h⟩
  | y :: ys, h => by
    obtain ⟨a, rfl, ha⟩ := h y List.mem_cons_self
    obtain ⟨as, e, g⟩ := exists_map (ys := ys) fun z hz => h z (List.mem_cons_of_mem _ hz)
    refine ⟨a :: as, by rw [e]; rfl, fun b hb => ?_⟩
    rcases List.mem_cons.mp hb with rfl | hb
    · exact ha
    · exact g b hb
/-! ### rows -/
abbrev rowD (r : Row) : D := .tup (r.map lotD)
theorem good_row {k : Nat} (r : Row) : (rowD r).good (k + 2) := good_tup (goodL_map fun a _ => good_lot a)
abbrev quD (p : Sd × Row) : D := .tup [stD p.1, rowD p.2]
def optD {α : Type} (f : α → D) : Option α → D
  | none => .non
  | some a => f a
theorem liv_nodup (b : Bk) : b.liv.Nodup := by unfold Bk.liv liveL; exact List.Pairwise.filter _ b.stds_nodup
/-! ### sizes -/
theorem rows_len {H : Nat} : ∀ (n : Nat) (cs : List (Nat × Nat)), cs.length = n → (∀ c ∈ cs, c.2 ≤ H) → (rowsL cs).length ≤ H ^ n
  | 0, cs, h, _ => by
    have : cs = [] := List.length_eq_zero_iff.mp h
    subst this
    simp [rowsL]
  | n + 1, cs, h, hH => by
    have hne : cs ≠ [] := fun e => by subst e; simp at h
    obtain ⟨cs', c, rfl⟩ : ∃ cs' c, cs = cs' ++ [c] := ⟨cs.dropLast, cs.getLast hne, (List.dropLast_concat_getLast hne).symm⟩
    have hl : cs'.length = n := by simp at h; exact h
    have ih := rows_len n cs' hl fun d hd => hH d (by simp [hd])
    rw [rows_app, List.length_flatMap]
    have e : ((rowsL cs').map fun r => ((List.range c.2).map fun a => r ++ [a + 1]).length) = (rowsL cs').map fun _ => c.2 := by
      refine List.map_congr_left fun r _ => ?_
      rw [List.length_map, List.length_range]
    rw [e, List.map_const', List.sum_replicate_nat, Nat.pow_succ]
    exact Nat.mul_le_mul ih (hH c (by simp))
theorem stds_len (b : Bk) : b.stds.length = b.wk.length * (rowsL b.cs).length := by
  unfold Bk.stds
  rw [List.length_flatMap]
  have e : ((List.range b.wk.length).map fun d => ((rowsL b.cs).map fun r => ((d, r) : Sd)).length) = (List.range b.wk.length).map fun _ => (rowsL b.cs).length := by
    refine List.map_congr_left fun r _ => ?_
    rw [List.length_map]
  rw [e, List.map_const', List.sum_replicate_nat, List.length_range]
theorem sm_of {b : Bk} {H : Nat} (h1 : 1 ≤ H) (hn : b.n ≤ 6) (hH : ∀ c ∈ b.cs, c.2 ≤ H) (hw : b.wk.length * H ^ b.n * 64 ≤ 1048576) (hw1 : 0 < b.wk.length) : b.Sm := by
  have hp : 0 < H ^ b.n := Nat.pow_pos h1
  have hle : H ^ b.n ≤ b.wk.length * H ^ b.n := Nat.le_mul_of_pos_left _ hw1
  have hle2 : b.wk.length ≤ b.wk.length * H ^ b.n := Nat.le_mul_of_pos_right _ hp
  refine ⟨hn, fun pre post e => ?_, ?_, fun c hc => ?_, by omega⟩
  · have h2 := rows_len pre.length pre rfl fun c hc => hH c (by rw [e]; simp [hc])
    have h3 : pre.length ≤ b.n := by unfold Bk.n; rw [e]; simp
    have h4 : H ^ pre.length ≤ H ^ b.n := Nat.pow_le_pow_right h1 h3
    omega
  · rw [stds_len]
    have h2 := rows_len b.n b.cs rfl hH
    have h3 := Nat.mul_le_mul_left b.wk.length h2
    omega
  · have h2 := hH c hc
    have h3 : 0 < b.n := List.length_pos_of_mem hc
    have h4 : H ^ 1 ≤ H ^ b.n := Nat.pow_le_pow_right h1 h3
    rw [Nat.pow_one] at h4
    omega
theorem sm_late {b : Bk} {H : Nat} (hn : b.n ≤ 6) (hH : ∀ c ∈ b.cs, c.2 ≤ H) (hw : b.wk.length * (H + 1) ^ b.n * 64 ≤ 1048576) (hw1 : 0 < b.wk.length) : b.late.Sm := by
  refine sm_of (H := H + 1) (by omega) (by rw [Bk.late_n]; exact hn) (fun c hc => ?_) (by rw [Bk.late_n]; exact hw) hw1
  obtain ⟨c', h1, rfl⟩ := List.mem_map.mp hc
  have := hH c' h1
  show c'.2 + 1 ≤ H + 1
  omega
/-! ### live standings by computing -/
def Bk.peel (b : Bk) (L : List Sd) : List Sd := L.filter fun s => (b.web s).any fun p => decide (p.2 ∈ L)
def Bk.peels (b : Bk) : Nat → List Sd
  | 0 => b.stds
  | k + 1 => b.peel (b.peels k)
theorem peels_sub (b : Bk) : ∀ k, List.Sublist (b.peels k) b.stds
  | 0 => List.Sublist.refl _
  | k + 1 => List.filter_sublist.trans (peels_sub b k)
theorem peels_dead {b : Bk} (ok : b.Ok) : ∀ k, ∀ s ∈ b.stds, s ∉ b.peels k → Dead b.web s
  | 0, s, h, hn => (hn h).elim
  | k + 1, s, h, hn => by
    by_cases hk : s ∈ b.peels k
    · refine ⟨s, fun p hp => ?_⟩
      by_cases hq : p.2 ∈ b.peels k
      · refine (hn (List.mem_filter.mpr ⟨hk, List.any_eq_true.mpr ⟨p, hp, decide_eq_true hq⟩⟩)).elim
      · exact peels_dead ok k p.2 (Bk.web_mem ok h hp) hq
    · exact peels_dead ok k s h hk
theorem liv_peels {b : Bk} (ok : b.Ok) {k : Nat} (h : b.peel (b.peels k) = b.peels k) : b.liv = b.peels k := by
  refine liveL_eq (peels_sub b k) b.stds_nodup (fun s hs => ?_) (peels_dead ok k)
  rw [← h] at hs
  obtain ⟨p, hp, hq⟩ := List.any_eq_true.mp (List.mem_filter.mp hs).2
  exact ⟨p, hp, of_decide_eq_true hq⟩
/-- the first row that mends, computed -/
def Bk.mendC (b : Bk) (L : List Sd) (s : Sd) : Option Row := bfs (fun t => decide (t ∈ L)) b.lets b.mnxt (b.late.stds.length + 1) [(s, [])] 0
theorem mendC_eq {b : Bk} {L : List Sd} (h : b.liv = L) (s : Sd) : b.mendR s = b.mendC L s := by unfold Bk.mendR Bk.mendC; rw [h]
end Nog

set_option Elab.async false
set_option linter.all false
set_option maxRecDepth 100000
set_option maxHeartbeats 2000000
/-! good steps, searches to the end, leaves: plain -/
namespace Nog
/-- the steps that stay among the live ones -/
noncomputable def gdW (W : Sd → List (List Nat × Sd)) (N : List Sd) (s : Sd) : List (List Nat × Sd) := (W s).filter fun p => decide (p.2 ∈ liveL W N)
noncomputable def Bk.good (b : Bk) (s : Sd) : List (List Nat × Sd) := gdW b.web b.stds s
noncomputable def Bk.glots (b : Bk) (s : Sd) : Row := (b.lets s).filter fun l => decide (b.nxt s l ∈ b.liv)
theorem Bk.good_eq (b : Bk) (s : Sd) : b.good s = (b.glots s).map fun l => (l, b.nxt s l) := by
  unfold Bk.good gdW Bk.glots Bk.web
  rw [List.filter_map]; rfl
theorem Bk.glots_lt (b : Bk) (s : Sd) : (b.glots s).Pairwise (· < ·) := (b.lets_lt s).filter _
theorem Bk.mem_glots {b : Bk} {s : Sd} {l : List Nat} : l ∈ b.glots s ↔ l ∈ b.lets s ∧ b.nxt s l ∈ b.liv := by
  unfold Bk.glots
  rw [List.mem_filter, decide_eq_true_eq]
theorem Bk.good_mem {b : Bk} {s : Sd} {p : List Nat × Sd} (h : p ∈ b.good s) : p.2 ∈ b.liv := by
  rw [Bk.good_eq] at h
  obtain ⟨l, hl, rfl⟩ := List.mem_map.mp h
  exact (Bk.mem_glots.mp hl).2
theorem Bk.liv_nodup (b : Bk) : b.liv.Nodup := by unfold Bk.liv liveL; exact List.Pairwise.filter _ b.stds_nodup
theorem Bk.liv_sub (b : Bk) : List.Sublist b.liv b.stds := by unfold Bk.liv liveL; exact List.filter_sublist
theorem Bk.good_len {b : Bk} (hn : b.n ≤ 6) (s : Sd) : (b.good s).length ≤ 64 := Nat.le_trans (List.length_filter_le ..) (Bk.web_len hn s)
/-! ### rows by length, then in order -/
def sl (a b : Row) : Prop := a.length < b.length ∨ a.length = b.length ∧ a < b
theorem row_lt_app {x y : Row} : ∀ {a b : Row}, a.length = b.length → a < b → a ++ x < b ++ y
  | [], [], _, h => (List.lt_irrefl _ h).elim
  | [], _ :: _, h, _ => by simp at h
  | _ :: _, [], h, _ => by simp at h
  | u :: a, v :: b, hl, h => by
    rw [List.cons_append, List.cons_append]
    rcases List.cons_lt_cons_iff.mp h with h | ⟨h1, h2⟩
    · exact List.cons_lt_cons_iff.mpr (.inl h)
    · exact List.cons_lt_cons_iff.mpr (.inr ⟨h1, row_lt_app (by simpa using hl) h2⟩)
theorem row_lt_last {x y : List Nat} (h : x < y) : ∀ a : Row, a ++ [x] < a ++ [y]
  | [] => List.cons_lt_cons_iff.mpr (.inl h)
  | u :: a => by
    rw [List.cons_append, List.cons_append]
    exact List.cons_lt_cons_iff.mpr (.inr ⟨rfl, row_lt_last h a⟩)
theorem sl_app {a b : Row} {x y : List Nat} (h : sl a b) : sl (a ++ [x]) (b ++ [y]) := by
  rcases h with h | ⟨h1, h2⟩
  · exact .inl (by simp; exact h)
  · exact .inr ⟨by simp [h1], row_lt_app h1 h2⟩
theorem row_sl_last {a : Row} {x y : List Nat} (h : x < y) : sl (a ++ [x]) (a ++ [y]) := .inr ⟨by simp, row_lt_last h a⟩
theorem sl_asymm {a b : Row} (h : sl a b) : ¬ sl b a := by
  rcases h with h | ⟨h1, h2⟩ <;> rintro (g | ⟨g1, g2⟩)
  · omega
  · omega
  · omega
  · exact List.lt_asymm h2 g2
/-! ### the search to its end -/
def bfsQ (lots : Sd → Row) (nx : Sd → List Nat → Sd) : Nat → Qu → Nat → Qu
  | 0, q, _ => q
  | k + 1, q, a => match q[a]? with
    | none => q
    | some (h, row) => bfsQ lots nx k ((lots h).foldl (addN nx h row) q) (a + 1)
section
variable {N : List Sd} {nx : Sd → List Nat → Sd} {lots : Sd → Row} {q : Qu} {h : Sd} {row : Row} {live : Sd → Bool}
theorem bfsQ_pre : ∀ {k : Nat} {q : Qu} {a : Nat}, q <+: bfsQ lots nx k q a
  | 0, q, a => List.prefix_refl _
  | k + 1, q, a => by
    rw [bfsQ]
    split
    · exact List.prefix_refl _
    · exact fold_pre.trans bfsQ_pre
theorem bfsQ_qi (hN : ∀ s ∈ N, ∀ l ∈ lots s, nx s l ∈ N) : ∀ {k : Nat} {q : Qu} {a : Nat}, QuI N q → QuI N (bfsQ lots nx k q a)
  | 0, q, a, i => i
  | k + 1, q, a, i => by
    rw [bfsQ]
    split
    · exact i
    · rename_i t row e
      have hm := List.mem_of_getElem? e
      exact bfsQ_qi hN (fold_qi2 i (fun l hl => hN _ (i.sub _ hm) l hl) (i.ln _ hm))
/-- the first that is met on the way is the first of all -/
theorem bfs_find (hN : ∀ s ∈ N, ∀ l ∈ lots s, nx s l ∈ N) : ∀ {k : Nat} {q : Qu} {a : Nat}, QuI N q → a ≤ q.length → N.length + 1 ≤ k + a → bfs live lots nx k q a = (((bfsQ lots nx k q a).drop a).find? fun p => live p.1).map (·.2)
  | 0, q, a, i, ha, hk => by
    have := i.len
    omega
  | k + 1, q, a, i, ha, hk => by
    rw [bfs, bfsQ]
    cases e : q[a]? with
    | none =>
      have : q.length ≤ a := List.getElem?_eq_none_iff.mp e
      simp only
      rw [List.drop_eq_nil_of_le this]; rfl
    | some p =>
      obtain ⟨t, row⟩ := p
      simp only
      have hm := List.mem_of_getElem? e
      have hlt : a < q.length := (List.getElem?_eq_some_iff.mp e).1
      have i2 := fold_qi2 (row := row) i (fun l hl => hN _ (i.sub _ hm) l hl) (i.ln _ hm)
      have p1 := fold_pre (nx := nx) (h := t) (row := row) (ls := lots t) (q := q)
      have p2 := p1.trans (bfsQ_pre (lots := lots) (nx := nx) (k := k) (a := a + 1))
      have ed : (bfsQ lots nx k ((lots t).foldl (addN nx t row) q) (a + 1)).drop a = (t, row) :: (bfsQ lots nx k ((lots t).foldl (addN nx t row) q) (a + 1)).drop (a + 1) := by
        obtain ⟨r, hr⟩ := p2
        have hlt2 : a < (bfsQ lots nx k ((lots t).foldl (addN nx t row) q) (a + 1)).length := by rw [← hr, List.length_append]; omega
        rw [List.drop_eq_getElem_cons hlt2]
        congr 1
        have := List.getElem?_append_left (l₂ := r) hlt
        rw [hr, e, List.getElem?_eq_getElem hlt2] at this
        exact Option.some.inj this
      rw [ed, List.find?_cons]
      cases hl : live t with
      | true => rfl
      | false =>
        simp only [Bool.false_eq_true, if_false]
        exact bfs_find hN i2 (by have := p1.length_le; omega) (by omega)
/-- where the entries come from -/
structure BSi (lots : Sd → Row) (nx : Sd → List Nat → Sd) (q : Qu) (a : Nat) (h : Sd) (row : Row) (pre : Row) : Prop where
  inc : (q.map (·.2)).Pairwise sl
  org : ∀ p ∈ q, p.2 = [] ∨ (∃ (i : Nat) (t : Sd) (r : Row) (l : List Nat), i < a ∧ q[i]? = some (t, r) ∧ l ∈ lots t ∧ p.1 = nx t l ∧ p.2 = r ++ [l]) ∨ ∃ l ∈ pre, p.1 = nx h l ∧ p.2 = row ++ [l]
theorem BSi.step {a : Nat} {pre : Row} {l : List Nat} (b : BSi lots nx q a h row pre) (hx : q[a]? = some (h, row)) (hp : ∀ m ∈ pre, m < l) : BSi lots nx (addN nx h row q l) a h row (pre ++ [l]) := by
  unfold addN
  split
  · exact ⟨b.inc, fun p hp' => (b.org p hp').imp id (Or.imp id fun ⟨m, hm, g⟩ => ⟨m, List.mem_append_left _ hm, g⟩)⟩
  · have ha : a < q.length := (List.getElem?_eq_some_iff.mp hx).1
    refine ⟨?_, fun p hp' => ?_⟩
    · rw [List.map_append, List.pairwise_append]
      refine ⟨b.inc, List.pairwise_singleton .., fun r hr r2 hr2 => ?_⟩
      rw [List.map_cons, List.map_nil, List.mem_singleton] at hr2
      subst hr2
      obtain ⟨p, hpq, rfl⟩ := List.mem_map.mp hr
      rcases b.org p hpq with e | ⟨i, t, r, l', hi, e, _, _, e2⟩ | ⟨m, hm, _, e2⟩
      · rw [e]; exact .inl (by simp)
      · rw [e2]
        refine sl_app ?_
        have := List.pairwise_iff_getElem.mp b.inc i a (by simp; omega) (by simpa using ha) hi
        obtain ⟨hi2, e3⟩ := List.getElem?_eq_some_iff.mp e
        obtain ⟨_, e4⟩ := List.getElem?_eq_some_iff.mp hx
        simp only [List.getElem_map, e3, e4] at this
        exact this
      · rw [e2]
        exact row_sl_last (hp m hm)
    · rcases List.mem_append.mp hp' with h1 | h1
      · refine (b.org p h1).imp id (Or.imp (fun ⟨i, t, r, l', hi, e, g⟩ => ⟨i, t, r, l', hi, ?_, g⟩) fun ⟨m, hm, g⟩ => ⟨m, List.mem_append_left _ hm, g⟩)
        rw [List.getElem?_append_left (by omega)]; exact e
      · rw [List.mem_singleton.mp h1]
        exact .inr (.inr ⟨l, List.mem_append_right _ List.mem_cons_self, rfl, rfl⟩)
theorem addN_at {a : Nat} {l : List Nat} (hx : q[a]? = some (h, row)) : (addN nx h row q l)[a]? = some (h, row) := by
  unfold addN
  split
  · exact hx
  · rw [List.getElem?_append_left (List.getElem?_eq_some_iff.mp hx).1]; exact hx
theorem BSi.fold {a : Nat} : ∀ {ls pre : Row} {q : Qu}, BSi lots nx q a h row pre → q[a]? = some (h, row) → (pre ++ ls).Pairwise (· < ·) → BSi lots nx (ls.foldl (addN nx h row) q) a h row (pre ++ ls)
  | [], pre, q, b, _, _ => by rw [List.append_nil]; exact b
  | l :: ls, pre, q, b, hx, hp => by
    have e : pre ++ l :: ls = (pre ++ [l]) ++ ls := by simp
    have hl : ∀ m ∈ pre, m < l := fun m hm => (List.pairwise_append.mp hp).2.2 m hm l List.mem_cons_self
    rw [e] at hp ⊢
    exact BSi.fold (b.step hx hl) (addN_at hx) hp
/-- all entries come from ones ahead -/
structure BS (lots : Sd → Row) (nx : Sd → List Nat → Sd) (q : Qu) (a : Nat) : Prop where
  inc : (q.map (·.2)).Pairwise sl
  org : ∀ p ∈ q, p.2 = [] ∨ ∃ (i : Nat) (t : Sd) (r : Row) (l : List Nat), i < a ∧ q[i]? = some (t, r) ∧ l ∈ lots t ∧ p.1 = nx t l ∧ p.2 = r ++ [l]
theorem BS.next {a : Nat} (b : BS lots nx q a) (hx : q[a]? = some (h, row)) (hl : (lots h).Pairwise (· < ·)) : BS lots nx ((lots h).foldl (addN nx h row) q) (a + 1) := by
  have b0 : BSi lots nx q a h row [] := ⟨b.inc, fun p hp => (b.org p hp).imp id .inl⟩
  have b1 := b0.fold (ls := lots h) hx (by simpa using hl)
  rw [List.nil_append] at b1
  have hx2 : ((lots h).foldl (addN nx h row) q)[a]? = some (h, row) := by
    obtain ⟨r, hr⟩ := fold_pre (nx := nx) (h := h) (row := row) (ls := lots h) (q := q)
    rw [← hr, List.getElem?_append_left (List.getElem?_eq_some_iff.mp hx).1]; exact hx
  refine ⟨b1.inc, fun p hp => ?_⟩
  rcases b1.org p hp with e | ⟨i, t, r, l, hi, g⟩ | ⟨l, hl, g1, g2⟩
  · exact .inl e
  · exact .inr ⟨i, t, r, l, by omega, g⟩
  · exact .inr ⟨a, h, row, l, by omega, hx2, hl, g1, g2⟩
theorem bfsQ_bs (hl : ∀ s, (lots s).Pairwise (· < ·)) : ∀ {k : Nat} {q : Qu} {a : Nat}, BS lots nx q a → ∃ a', BS lots nx (bfsQ lots nx k q a) a'
  | 0, q, a, b => ⟨a, b⟩
  | k + 1, q, a, b => by
    rw [bfsQ]
    split
    · exact ⟨a, b⟩
    · rename_i t row e
      exact bfsQ_bs hl (b.next e (hl t))
theorem bs0 {s : Sd} : BS lots nx [(s, [])] 0 := ⟨by simp, fun p hp => .inl (by rw [List.mem_singleton.mp hp])⟩
end
/-- all standings that good rows lead to, with the first rows -/
noncomputable def Bk.reach (b : Bk) (s : Sd) : Qu := bfsQ b.glots b.nxt (b.liv.length + 1) [(s, [])] 0
theorem Bk.gN {b : Bk} : ∀ s ∈ b.liv, ∀ l ∈ b.glots s, b.nxt s l ∈ b.liv := fun s _ l hl => (Bk.mem_glots.mp hl).2
theorem qi0 {N : List Sd} {s : Sd} (h : s ∈ N) : QuI N [(s, [])] := ⟨by simp, fun p hp => by rw [List.mem_singleton.mp hp]; exact h, fun p hp => by rw [List.mem_singleton.mp hp]; exact Nat.zero_lt_one⟩
theorem Bk.reach_qi {b : Bk} {s : Sd} (h : s ∈ b.liv) : QuI b.liv (b.reach s) := bfsQ_qi Bk.gN (qi0 h)
theorem Bk.reach_inc {b : Bk} {s : Sd} : ((b.reach s).map (·.2)).Pairwise sl := by
  obtain ⟨a, h⟩ := bfsQ_bs (lots := b.glots) (nx := b.nxt) (k := b.liv.length + 1) b.glots_lt (bs0 (s := s))
  exact h.inc
theorem Bk.reach_head {b : Bk} {s : Sd} : (b.reach s)[0]? = some (s, []) := by
  obtain ⟨r, hr⟩ := bfsQ_pre (lots := b.glots) (nx := b.nxt) (k := b.liv.length + 1) (q := [(s, [])]) (a := 0)
  unfold Bk.reach
  rw [← hr]; rfl
/-- a good row to each -/
theorem bfsQ_path {lots : Sd → Row} {nx : Sd → List Nat → Sd} {s0 : Sd} : ∀ {k : Nat} {q : Qu} {a : Nat}, (∀ p ∈ q, walkN lots nx s0 p.2 = some p.1) → ∀ p ∈ bfsQ lots nx k q a, walkN lots nx s0 p.2 = some p.1
  | 0, _, _, h => h
  | k + 1, q, a, h => by
    rw [bfsQ]
    split
    · exact h
    · rename_i t row e
      exact bfsQ_path (fold_path (h _ (List.mem_of_getElem? e)) (fun l hl => hl) h)
theorem Bk.reach_path {b : Bk} {s : Sd} : ∀ p ∈ b.reach s, walkN b.glots b.nxt s p.2 = some p.1 := bfsQ_path fun p hp => by rw [List.mem_singleton.mp hp]; rfl
/-! ### empty days -/
noncomputable def Bk.emp (b : Bk) (s : Sd) : Option Sd := if [] ∈ b.glots s then some (b.nxt s []) else none
noncomputable def Bk.lenF (b : Bk) : Nat → Sd → Nat
  | 0, _ => 0
  | k + 1, s => match b.emp s with
    | none => 0
    | some t => b.lenF k t + 1
noncomputable def Bk.len (b : Bk) (s : Sd) : Nat := b.lenF (b.hi 0 + 1) s
theorem emp_some {b : Bk} {s t : Sd} (h : b.emp s = some t) : t = b.nxt s [] ∧ [] ∈ b.glots s := by
  unfold Bk.emp at h
  split at h
  · rename_i g; exact ⟨(Option.some.inj h).symm, g⟩
  · cases h
theorem emp_ok {b : Bk} {s t : Sd} (h : b.emp s = some t) : t ∈ b.liv ∧ ∀ i, i < b.n → age t i = age s i + 1 := by
  obtain ⟨rfl, g⟩ := emp_some h
  refine ⟨(Bk.mem_glots.mp g).2, fun i hi => ?_⟩
  unfold Bk.nxt
  rw [age_map hi, if_neg (by simp)]
theorem liv_age {b : Bk} {s : Sd} (h : s ∈ b.liv) {i : Nat} (hi : i < b.n) : 1 ≤ age s i ∧ age s i ≤ b.hi i := by
  have := (Bk.mem_stds.mp (Bk.mem_liv.mp h).1).2.2 i hi
  omega
theorem lenF_le {b : Bk} {i : Nat} (hi : i < b.n) : ∀ {k : Nat} {s : Sd}, b.lenF k s ≤ b.hi i - age s i
  | 0, s => Nat.zero_le _
  | k + 1, s => by
    rw [Bk.lenF]
    cases e : b.emp s with
    | none => exact Nat.zero_le _
    | some t =>
      have h1 := lenF_le hi (k := k) (s := t)
      obtain ⟨h2, h3⟩ := emp_ok e
      have h4 := h3 i hi
      have h5 := liv_age h2 hi
      show b.lenF k t + 1 ≤ _
      omega
theorem lenF_up {b : Bk} (hn : 0 < b.n) : ∀ {k : Nat} {s : Sd}, b.hi 0 - age s 0 < k → b.lenF k s = b.lenF (k + 1) s
  | 0, s, h => by omega
  | k + 1, s, h => by
    rw [Bk.lenF, Bk.lenF]
    cases e : b.emp s with
    | none => rfl
    | some t =>
      obtain ⟨h2, h3⟩ := emp_ok e
      have h4 := h3 0 hn
      have h5 := liv_age h2 hn
      show b.lenF k t + 1 = b.lenF (k + 1) t + 1
      rw [lenF_up hn (by omega)]
theorem len_none {b : Bk} {s : Sd} (h : b.emp s = none) : b.len s = 0 := by
  unfold Bk.len
  rw [Bk.lenF, h]
theorem len_some {b : Bk} (hn : 0 < b.n) {s t : Sd} (h : b.emp s = some t) : b.len s = b.len t + 1 := by
  obtain ⟨h2, h3⟩ := emp_ok h
  have h4 := h3 0 hn
  have h5 := liv_age h2 hn
  unfold Bk.len
  rw [Bk.lenF, h]
  show b.lenF (b.hi 0) t + 1 = _
  rw [lenF_up hn (by omega)]
theorem len_le {b : Bk} {i : Nat} (hi : i < b.n) (s : Sd) : b.len s ≤ b.hi i - age s i := lenF_le hi
theorem emp_liv {b : Bk} {s t : Sd} (ok : b.Ok) (hs : s ∈ b.stds) (h : b.emp s = some t) : s ∈ b.liv := by
  obtain ⟨rfl, g⟩ := emp_some h
  obtain ⟨g1, g2⟩ := Bk.mem_glots.mp g
  refine Bk.mem_liv.mpr ⟨hs, Bk.liveB_iff.mpr fun hd => ?_⟩
  cases hd with
  | mk _ hd => exact (Bk.liveB_iff.mp (Bk.mem_liv.mp g2).2) (hd ([], b.nxt s []) (List.mem_map.mpr ⟨[], g1, rfl⟩))
end Nog

set_option Elab.async false
set_option linter.all false
set_option maxRecDepth 100000
set_option maxHeartbeats 2000000
/-! leaves: plain -/
namespace Nog
noncomputable def Bk.leaveR (b : Bk) (s : Sd) (d : Nat) : Option Row := if s ∈ b.liv then ((b.reach s).find? fun p => decide (d ≤ b.len p.1)).map (·.2) else none
noncomputable def Bk.aheadM (b : Bk) (s : Sd) : Nat := maxl ((b.reach s).map fun p => b.len p.1)
theorem glots_emp (b : Bk) (s : Sd) : ((b.good s).filter fun p => decide (p.1.length = 0)).map (·.2) = (b.emp s).toList := by
  rw [Bk.good_eq, List.filter_map, List.map_map]
  have nd : (b.glots s).Nodup := List.Pairwise.imp (fun h e => by subst e; exact List.lt_irrefl _ h) (b.glots_lt s)
  unfold Bk.emp
  have e : (b.glots s).filter ((fun p : List Nat × Sd => decide (p.1.length = 0)) ∘ fun l => (l, b.nxt s l)) = (b.glots s).filter fun l => decide (l = []) := by
    refine List.filter_congr fun l _ => ?_
    simp only [Function.comp, List.length_eq_zero_iff]
  rw [e]
  split
  · rename_i h
    have : (b.glots s).filter (fun l => decide (l = [])) = [[]] := by
      have h1 : ((b.glots s).filter fun l => decide (l = [])).Nodup := nd.filter _
      have h2 : ∀ l ∈ (b.glots s).filter (fun l => decide (l = [])), l = [] := fun l hl => of_decide_eq_true (List.mem_filter.mp hl).2
      have h3 : [] ∈ (b.glots s).filter (fun l => decide (l = [])) := List.mem_filter.mpr ⟨h, by simp⟩
      cases hL : (b.glots s).filter fun l => decide (l = []) with
      | nil => rw [hL] at h3; cases h3
      | cons x xs =>
        rw [hL] at h1 h2
        cases xs with
        | nil => rw [h2 x List.mem_cons_self]
        | cons y ys =>
          rw [List.nodup_cons] at h1
          have e1 := h2 x List.mem_cons_self
          have e2 := h2 y (by simp)
          rw [e1, e2] at h1
          exact (h1.1 List.mem_cons_self).elim
    rw [this]; rfl
  · rename_i h
    have : (b.glots s).filter (fun l => decide (l = [])) = [] := by
      rw [List.filter_eq_nil_iff]
      intro l hl e
      have := of_decide_eq_true e
      subst this
      exact h hl
    rw [this]; rfl
/-! ### the order of (length, row) -/
theorem ltbL_rows : ∀ a b : Row, D.ltbL (a.map lotD) (b.map lotD) = decide (a < b)
  | _, [] => by simp [D.ltbL]
  | [], b :: bs => by simp [D.ltbL]
  | a :: as, b :: bs => by
    rw [List.map_cons, List.map_cons, D.ltbL, ltbL_rows as bs]
    have e1 : D.eqb (lotD a) (lotD b) = decide (a = b) := by
      rw [D.eqb, Bool.eq_iff_iff, decide_eq_true_eq]
      constructor
      · intro h
        exact lotD_inj (by rw [lotD, lotD, eqL_of h])
      · rintro rfl
        exact eqbL_self (plainL_map fun a _ => rfl)
    have e2 : D.ltb (lotD a) (lotD b) = decide (a < b) := by rw [D.ltb, ltbL_nat]
    rw [e1, e2]
    by_cases h : a = b
    · simp [h, List.cons_lt_cons_iff, List.lt_irrefl]
    · simp [h, List.cons_lt_cons_iff]
where
  eqL_of : ∀ {a b : List Nat}, D.eqbL (a.map nD) (b.map nD) = true → a.map nD = b.map nD
  | [], [], _ => rfl
  | [], _ :: _, h => by simp [D.eqbL] at h
  | _ :: _, [], h => by simp [D.eqbL] at h
  | x :: xs, y :: ys, h => by
    simp only [List.map_cons, D.eqbL, Bool.and_eq_true, D.eqb, decide_eq_true_eq] at h
    have hx : x = y := by omega
    rw [List.map_cons, List.map_cons, eqL_of h.2, hx]
instance (a b : Row) : Decidable (sl a b) := by unfold sl; exact inferInstance
theorem row_eq_of : ∀ {a b : Row}, D.eqbL (a.map lotD) (b.map lotD) = true → a = b
  | [], [], _ => rfl
  | [], _ :: _, h => by simp [D.eqbL] at h
  | _ :: _, [], h => by simp [D.eqbL] at h
  | x :: xs, y :: ys, h => by
    simp only [List.map_cons, D.eqbL, Bool.and_eq_true, D.eqb] at h
    have h1 : lotD x = lotD y := by rw [lotD, lotD, ltbL_rows.eqL_of h.1]
    rw [row_eq_of h.2, lotD_inj h1]
abbrev keyR (r : Row) : D := .tup [nD r.length, rowD r]
theorem cm_keyR {S : Sto} (a b : Row) : cmP .lt S (.val (keyR a)) (.val (keyR b)) = some (decide (sl a b)) := by
  have g : ∀ r : Row, (keyR r).good 60 := fun r => good_up (good_tup (goodL_cons (good_int _) (goodL_cons (good_row r (k := 0)) goodL_nil))) (by decide)
  have al : D.alike (keyR a) (keyR b) = true := by
    have h1 : D.alike (rowD a) (rowD b) = true := by rw [D.alike]; exact alikeL_map alike_lot a b
    rw [D.alike]
    simp only [D.alikeL, h1]
    rfl
  have ho : okOrd (keyR a) (keyR b) = true := by
    unfold okOrd
    rw [(g a).1, (g b).1, al, decide_eq_true (g a).2, decide_eq_true (g b).2]; rfl
  have hl : D.ltb (keyR a) (keyR b) = decide (sl a b) := by
    have E1 : D.eqb (nD a.length) (nD b.length) = decide (a.length = b.length) := by
      simp only [D.eqb]; exact decide_eq_decide.mpr Int.ofNat_inj
    have E2 : D.eqb (rowD a) (rowD b) = decide (a = b) := by
      rw [D.eqb, Bool.eq_iff_iff, decide_eq_true_eq]
      exact ⟨row_eq_of, fun e => by subst e; exact eqbL_self (plainL_map fun l _ => (good_lot l (k := 0)).1)⟩
    have E3 : D.ltb (rowD a) (rowD b) = decide (a < b) := by rw [D.ltb, ltbL_rows]
    have E4 : D.ltb (nD a.length) (nD b.length) = decide (a.length < b.length) := by
      simp only [D.ltb]; exact decide_eq_decide.mpr Int.ofNat_lt
    have e0 : D.ltb (keyR a) (keyR b) = if D.eqb (nD a.length) (nD b.length) = true then (if D.eqb (rowD a) (rowD b) = true then D.ltbL [] [] else D.ltb (rowD a) (rowD b)) else D.ltb (nD a.length) (nD b.length) := by
      rfl
    rw [e0, E1, E2, E3, E4]
    unfold sl
    by_cases h : a.length = b.length
    · by_cases e : a = b
      · subst e; simp [List.lt_irrefl, D.ltbL]
      · simp [h, e]
    · simp [h]
  simp only [cmP, ordP, ho, if_true, hl]
/-- the first that does is the least -/
theorem find_first {q : Qu} {P : Sd × Row → Bool} (hi : (q.map (·.2)).Pairwise sl) {pre post : Qu} {p : Sd × Row} (e : q = pre ++ p :: post) {r : Row} (hf : (pre.find? P).map (·.2) = some r) : sl r p.2 := by
  cases hq : pre.find? P with
  | none => rw [hq] at hf; cases hf
  | some z =>
    rw [hq] at hf
    have e2 := Option.some.inj hf
    have hz : z ∈ pre := List.mem_of_find?_eq_some hq
    rw [e, List.map_append, List.pairwise_append] at hi
    rw [← e2]
    exact hi.2.2 _ (List.mem_map.mpr ⟨z, hz, rfl⟩) _ (by simp)
theorem find_snoc {q : Qu} {P : Sd × Row → Bool} {p : Sd × Row} : ((q ++ [p]).find? P).map (·.2) = match (q.find? P).map (·.2) with
    | some r => some r
    | none => if P p then some p.2 else none := by
  rw [List.find?_append]
  cases q.find? P with
  | none =>
    simp only [Option.none_or, Option.map_none, List.find?_cons, List.find?_nil]
    cases P p <;> rfl
  | some z => rfl
end Nog

set_option Elab.async false
set_option linter.all false
set_option maxRecDepth 100000
set_option maxHeartbeats 2000000
/-! for the law of leaves: plain, rules -/
namespace Nog
def Bk.lf (b : Bk) (L : Sd → Nat) (d : Nat) : List Sd := b.stds.filter fun s => decide (d = 0 ∨ d ≤ L s)
theorem eqbL_nat : ∀ a b : List Nat, D.eqbL (a.map nD) (b.map nD) = decide (a = b)
  | [], [] => rfl
  | [], _ :: _ => rfl
  | _ :: _, [] => rfl
  | x :: xs, y :: ys => by
    rw [List.map_cons, List.map_cons, D.eqbL, eqbL_nat xs ys]
    simp only [D.eqb]
    by_cases h : x = y
    · simp [h]
    · have : ¬ ((x : Int) = (y : Int)) := by omega
      simp [h, this]
theorem eqb_st (s t : Sd) : D.eqb (stD s) (stD t) = decide (s = t) := by
  have e : D.eqb (stD s) (stD t) = (decide (s.1 = t.1) && (decide (s.2 = t.2) && true)) := by
    rw [D.eqb, D.eqbL, D.eqbL, D.eqbL]
    congr 1
    · simp only [D.eqb]; exact decide_eq_decide.mpr Int.ofNat_inj
    · congr 1
      rw [D.eqb, eqbL_nat]
  rw [e, Bool.and_true, Bool.eq_iff_iff, Bool.and_eq_true, decide_eq_true_eq, decide_eq_true_eq, decide_eq_true_eq]
  exact ⟨fun h => Prod.ext h.1 h.2, fun h => by rw [h]; exact ⟨rfl, rfl⟩⟩
theorem memb_st (s : Sd) : ∀ G : List Sd, memb (stD s) (G.map stD) = decide (s ∈ G)
  | [] => by simp [memb]
  | t :: G => by
    rw [List.map_cons, memb, memb_st s G, eqb_st, Bool.eq_iff_iff, Bool.or_eq_true, decide_eq_true_eq, decide_eq_true_eq, decide_eq_true_eq, List.mem_cons]
    exact ⟨fun h => h.imp Eq.symm id, fun h => h.imp Eq.symm id⟩
theorem in_stL {S : Sto} {l : Nat} {G : List Sd} (h : S[l]? = some (.lst (G.map stD))) (s : Sd) : cmP .inn S (.val (stD s)) (.val (.ref l)) = some (decide (s ∈ G)) := by
  have g := good_st s (k := 58)
  have h1 : D.plainL (G.map stD) = true := plainL_map fun a _ => (good_st a (k := 0)).1
  have h2 : D.depthL (G.map stD) ≤ 60 := depthL_map fun a _ => Nat.le_trans (good_st a (k := 0)).2 (by decide)
  simp only [cmP, inP, h, h1, h2, g.1, g.2, memb_st]
  simp
theorem cm_eqL {S : Sto} (a b : List Nat) : cmP .eq S (.val (lotD a)) (.val (lotD b)) = some (decide (a = b)) := by
  have ga := good_lot a (k := 59)
  have gb := good_lot b (k := 59)
  have e : D.eqb (lotD a) (lotD b) = decide (a = b) := by rw [D.eqb, eqbL_nat]
  simp only [cmP, eqP, Pv.lstItems, ga.1, gb.1, ga.2, gb.2, e]
  simp
/-! ### standings ascend -/
def sdlt (s t : Sd) : Prop := s.1 < t.1 ∨ s.1 = t.1 ∧ s.2 < t.2
instance (s t : Sd) : Decidable (sdlt s t) := by unfold sdlt; exact inferInstance
theorem nat_lt_app {x y : List Nat} : ∀ {a b : List Nat}, a.length = b.length → a < b → a ++ x < b ++ y
  | [], [], _, h => (List.lt_irrefl _ h).elim
  | [], _ :: _, h, _ => by simp at h
  | _ :: _, [], h, _ => by simp at h
  | u :: a, v :: b, hl, h => by
    rw [List.cons_append, List.cons_append]
    rcases List.cons_lt_cons_iff.mp h with h | ⟨h1, h2⟩
    · exact List.cons_lt_cons_iff.mpr (.inl h)
    · exact List.cons_lt_cons_iff.mpr (.inr ⟨h1, nat_lt_app (by simpa using hl) h2⟩)
theorem nat_lt_last {x y : Nat} (h : x < y) : ∀ a : List Nat, a ++ [x] < a ++ [y]
  | [] => List.cons_lt_cons_iff.mpr (.inl h)
  | u :: a => by
    rw [List.cons_append, List.cons_append]
    exact List.cons_lt_cons_iff.mpr (.inr ⟨rfl, nat_lt_last h a⟩)
theorem rows_lt : ∀ (n : Nat) (cs : List (Nat × Nat)), cs.length = n → (rowsL cs).Pairwise (· < ·)
  | 0, cs, h => by
    have : cs = [] := List.length_eq_zero_iff.mp h
    subst this
    simp [rowsL]
  | n + 1, cs, h => by
    have hne : cs ≠ [] := fun e => by subst e; simp at h
    obtain ⟨cs', c, rfl⟩ : ∃ cs' c, cs = cs' ++ [c] := ⟨cs.dropLast, cs.getLast hne, (List.dropLast_concat_getLast hne).symm⟩
    have hl : cs'.length = n := by simp at h; exact h
    rw [rows_app, List.pairwise_flatMap]
    refine ⟨fun r hr => ?_, ?_⟩
    · rw [List.pairwise_map]
      exact List.Pairwise.imp (fun h => nat_lt_last (by omega) r) List.pairwise_lt_range
    · refine List.Pairwise.imp_of_mem (R := (· < ·)) (fun {a b} ha hb h x hx y hy => ?_) (rows_lt n cs' hl)
      obtain ⟨_, _, rfl⟩ := List.mem_map.mp hx
      obtain ⟨_, _, rfl⟩ := List.mem_map.mp hy
      exact nat_lt_app (((mem_rows _ cs' rfl a).mp ha).1.trans ((mem_rows _ cs' rfl b).mp hb).1.symm) h
theorem stds_lt (b : Bk) : b.stds.Pairwise sdlt := by
  unfold Bk.stds
  rw [List.pairwise_flatMap]
  refine ⟨fun d _ => ?_, ?_⟩
  · rw [List.pairwise_map]
    exact List.Pairwise.imp (fun h => .inr ⟨rfl, h⟩) (rows_lt _ b.cs rfl)
  · refine List.Pairwise.imp (fun {a b} h x hx y hy => ?_) List.pairwise_lt_range
    obtain ⟨_, _, rfl⟩ := List.mem_map.mp hx
    obtain ⟨_, _, rfl⟩ := List.mem_map.mp hy
    exact .inl h
theorem ltb_st (s t : Sd) : D.ltb (stD s) (stD t) = decide (sdlt s t) := by
  have e0 : D.ltb (stD s) (stD t) = if D.eqb (nD s.1) (nD t.1) = true then (if D.eqb (lotD s.2) (lotD t.2) = true then D.ltbL [] [] else D.ltb (lotD s.2) (lotD t.2)) else D.ltb (nD s.1) (nD t.1) := by rfl
  have E1 : D.eqb (nD s.1) (nD t.1) = decide (s.1 = t.1) := by simp only [D.eqb]; exact decide_eq_decide.mpr Int.ofNat_inj
  have E2 : D.eqb (lotD s.2) (lotD t.2) = decide (s.2 = t.2) := by rw [D.eqb, eqbL_nat]
  have E3 : D.ltb (lotD s.2) (lotD t.2) = decide (s.2 < t.2) := by rw [D.ltb, ltbL_nat]
  have E4 : D.ltb (nD s.1) (nD t.1) = decide (s.1 < t.1) := by simp only [D.ltb]; exact decide_eq_decide.mpr Int.ofNat_lt
  rw [e0, E1, E2, E3, E4]
  unfold sdlt
  by_cases h : s.1 = t.1
  · by_cases e : s.2 = t.2
    · simp [h, e, List.lt_irrefl, D.ltbL]
    · simp [h, e]
  · simp [h]
theorem sdlt_asymm {s t : Sd} (h : sdlt s t) : ¬ sdlt t s := by
  rcases h with h | ⟨h1, h2⟩ <;> rintro (g | ⟨g1, g2⟩)
  · omega
  · omega
  · omega
  · exact List.lt_asymm h2 g2
theorem sort_stds {L : List Sd} (h : L.Pairwise sdlt) : sortD (L.map stD) = L.map stD := by
  unfold sortD
  refine List.mergeSort_of_pairwise ?_
  rw [List.pairwise_map]
  refine h.imp fun {a b} h => ?_
  rw [ltb_st, decide_eq_false (sdlt_asymm h)]; rfl
theorem liv_lt (b : Bk) : b.liv.Pairwise sdlt := (stds_lt b).sublist b.liv_sub
/-! ### maxima, rows of leaves -/
theorem foldl_max_le : ∀ (l : List Nat) (x : Nat), x ≤ l.foldl max x ∧ ∀ y ∈ l, y ≤ l.foldl max x
  | [], x => ⟨Nat.le_refl _, fun y h => by cases h⟩
  | z :: l, x => by
    obtain ⟨h1, h2⟩ := foldl_max_le l (max x z)
    rw [List.foldl_cons]
    refine ⟨by omega, fun y hy => ?_⟩
    rcases List.mem_cons.mp hy with rfl | hy
    · omega
    · exact h2 y hy
theorem foldl_max_mem : ∀ (l : List Nat) (x : Nat), l.foldl max x = x ∨ l.foldl max x ∈ l
  | [], x => .inl rfl
  | z :: l, x => by
    rw [List.foldl_cons]
    rcases foldl_max_mem l (max x z) with h | h
    · rcases Nat.le_total x z with q | q
      · rw [h, Nat.max_eq_right q]; exact .inr List.mem_cons_self
      · rw [h, Nat.max_eq_left q]; exact .inl rfl
    · exact .inr (List.mem_cons_of_mem _ h)
theorem maxl_le {l : List Nat} {y : Nat} (h : y ∈ l) : y ≤ maxl l := (foldl_max_le l 0).2 y h
theorem maxl_mem {l : List Nat} (h : l ≠ []) : maxl l ∈ l := by
  rcases foldl_max_mem l 0 with q | q
  · cases l with
    | nil => exact (h rfl).elim
    | cons x l =>
      have := maxl_le (l := x :: l) (y := x) List.mem_cons_self
      unfold maxl at this ⊢
      have hx : x = 0 := by omega
      rw [q, hx]; exact List.mem_cons_self
  · exact q
theorem leaveR_some {b : Bk} {s : Sd} (hs : s ∈ b.liv) (d : Nat) : (b.leaveR s d ≠ none) ↔ d ≤ b.aheadM s := by
  unfold Bk.leaveR
  rw [if_pos hs]
  have hh := Bk.reach_head (b := b) (s := s)
  have hne : (b.reach s).map (fun p => b.len p.1) ≠ [] := fun e => by
    rw [List.map_eq_nil_iff] at e
    rw [e] at hh; cases hh
  constructor
  · intro h
    cases hf : (b.reach s).find? fun p => decide (d ≤ b.len p.1) with
    | none => rw [hf] at h; exact (h rfl).elim
    | some p =>
      have h1 := List.find?_some hf
      have h2 := List.mem_of_find?_eq_some hf
      exact Nat.le_trans (of_decide_eq_true h1) (maxl_le (List.mem_map.mpr ⟨p, h2, rfl⟩))
  · intro h
    obtain ⟨p, hp, e⟩ := List.mem_map.mp (maxl_mem hne)
    cases hf : (b.reach s).find? fun p => decide (d ≤ b.len p.1) with
    | none =>
      have := List.find?_eq_none.mp hf p hp
      exact absurd (decide_eq_true (show d ≤ b.len p.1 by rw [e]; exact h)) this
    | some p => simp
theorem good_days {b : Bk} {s : Sd} (hs : s ∈ b.liv) {M : Nat} (hM : b.aheadM s ≤ M) : (List.range (M + 1)).filter (fun d => decide (b.leaveR s d ≠ none)) = List.range (b.aheadM s + 1) := by
  refine asc_ext ((asc_range _).filter _) (asc_range _) fun d => ?_
  rw [List.mem_filter, List.mem_range, List.mem_range, decide_eq_true_eq, leaveR_some hs]
  omega
theorem aheadM_le {b : Bk} {s : Sd} (hs : s ∈ b.liv) {M : Nat} (hM : ∀ t, b.len t ≤ M) : b.aheadM s ≤ M := by
  have hh := Bk.reach_head (b := b) (s := s)
  have hne : (b.reach s).map (fun p => b.len p.1) ≠ [] := fun e => by
    rw [List.map_eq_nil_iff] at e
    rw [e] at hh; cases hh
  obtain ⟨p, hp, e⟩ := List.mem_map.mp (maxl_mem hne)
  unfold Bk.aheadM
  rw [← e]
  exact hM _
/-- what the law's search tells -/
theorem ahead_leaveR {b : Bk} {s : Sd} (hs : s ∈ b.liv) {d : Nat} {G : List Sd} (hG : ∀ t ∈ b.liv, t ∈ G ↔ d ≤ b.len t) : bfs (fun t => decide (t ∈ G)) b.glots b.nxt (b.liv.length + 1) [(s, [])] 0 = b.leaveR s d := by
  rw [bfs_find Bk.gN (qi0 hs) (Nat.zero_le _) (by omega)]
  unfold Bk.leaveR
  rw [if_pos hs, List.drop_zero]
  show ((b.reach s).find? fun p => decide (p.1 ∈ G)).map (·.2) = _
  congr 1
  have i := Bk.reach_qi hs
  have : ∀ {q : Qu}, (∀ p ∈ q, p.1 ∈ b.liv) → (q.find? fun p => decide (p.1 ∈ G)) = q.find? fun p => decide (d ≤ b.len p.1) := fun {q} hq => by
    induction q with
    | nil => rfl
    | cons p q ih =>
      rw [List.find?_cons, List.find?_cons, ih fun z hz => hq z (List.mem_cons_of_mem _ hz)]
      rw [decide_eq_decide.mpr (hG p.1 (hq p List.mem_cons_self))]
  exact this fun p hp => i.sub p hp
theorem fold_filter {nx : Sd → List Nat → Sd} {h : Sd} {row : Row} {P : List Nat → Bool} : ∀ {ls : Row} {q : Qu}, (ls.filter P).foldl (addN nx h row) q = ls.foldl (fun q l => if P l then addN nx h row q l else q) q
  | [], _ => rfl
  | l :: ls, q => by
    rw [List.filter_cons, List.foldl_cons]
    cases P l
    · exact fold_filter
    · exact fold_filter
end Nog

set_option Elab.async false
set_option linter.all false
set_option maxRecDepth 100000
set_option maxHeartbeats 2000000
/-! for the law of leaves: sizes, rules -/
namespace Nog
theorem r_not {C : Call} {σ : Env} {S : Sto} {a : E} {t : Bool} (h : ev C a σ S = .ok (.val (.bl t)) S) : ev C (.nt a) σ S = .ok (.val (.bl (!t))) S := r_nt h rfl
theorem alike_st (s t : Sd) : D.alike (stD s) (stD t) = true := by
  rw [D.alike]
  simp only [D.alikeL, alike_lot]
  rfl
theorem okSort_st (l : List Sd) : okSort (l.map stD) = true := okSort_tup alike_st (fun a => good_up (good_st a (k := 0)) (by decide)) (fun _ => rfl) l
theorem sz_lot (l : List Nat) : (lotD l).sz = l.length + 1 := by
  rw [D.sz]
  congr 1
  induction l with
  | nil => rfl
  | cons a l ih => rw [List.map_cons, D.szL, ih, List.length_cons]; simp [D.sz]; omega
theorem szL_map {α : Type} {f : α → D} {k : Nat} : ∀ {l : List α}, (∀ a ∈ l, (f a).sz ≤ k) → D.szL (l.map f) ≤ l.length * k
  | [], _ => Nat.zero_le _
  | a :: l, h => by
    rw [List.map_cons, D.szL, List.length_cons, Nat.add_mul, Nat.one_mul]
    have h1 := h a List.mem_cons_self
    have h2 := szL_map (f := f) (k := k) (l := l) fun b hb => h b (List.mem_cons_of_mem _ hb)
    omega
theorem lets_le {b : Bk} {s : Sd} {l : List Nat} (hn : b.n ≤ 6) (h : l ∈ b.lets s) : l.length ≤ 6 := by
  obtain ⟨h1, h2, _⟩ := Bk.mem_lets.mp h
  have := List.Nodup.length_le_of_subset (l₁ := l) (l₂ := List.range b.n) (Asc.nodup h1) fun x hx => List.mem_range.mpr (h2 x hx)
  rw [List.length_range] at this
  omega
theorem walk_lots {lots : Sd → Row} {nx : Sd → List Nat → Sd} : ∀ {r : Row} {s t : Sd}, walkN lots nx s r = some t → ∀ l ∈ r, ∃ u, l ∈ lots u
  | [], _, _, _, l, hl => by cases hl
  | m :: r, s, t, h, l, hl => by
    rw [walkN] at h
    split at h
    · rename_i hm
      rcases List.mem_cons.mp hl with rfl | hl
      · exact ⟨s, hm⟩
      · exact walk_lots h l hl
    · cases h
theorem walk_mono {l1 l2 : Sd → Row} {nx : Sd → List Nat → Sd} (hs : ∀ s, ∀ l ∈ l1 s, l ∈ l2 s) : ∀ {r : Row} {s t : Sd}, walkN l1 nx s r = some t → walkN l2 nx s r = some t
  | [], _, _, h => h
  | m :: r, s, t, h => by
    rw [walkN] at h
    rw [walkN]
    split at h
    · rename_i hm
      rw [if_pos (hs _ _ hm)]
      exact walk_mono hs h
    · cases h
theorem leaveR_in {b : Bk} {s : Sd} {d : Nat} {r : Row} (h : b.leaveR s d = some r) : s ∈ b.liv ∧ ∃ t, (t, r) ∈ b.reach s ∧ t ∈ b.liv ∧ d ≤ b.len t ∧ walkN b.glots b.nxt s r = some t ∧ r.length < b.liv.length + 1 := by
  unfold Bk.leaveR at h
  split at h
  · rename_i hs
    cases hf : (b.reach s).find? fun p => decide (d ≤ b.len p.1) with
    | none => rw [hf] at h; cases h
    | some p =>
      rw [hf] at h
      have e := Option.some.inj h
      have hp := List.mem_of_find?_eq_some hf
      have i := Bk.reach_qi hs
      subst e
      have h1 := i.ln p hp
      have h2 := i.len
      have hd := List.find?_some (p := fun p : Sd × Row => decide (d ≤ b.len p.1)) hf
      exact ⟨hs, p.1, hp, i.sub p hp, of_decide_eq_true hd, Bk.reach_path p hp, by show p.2.length < _; omega⟩
  · cases h
theorem leaveR_sz {b : Bk} (hn : b.n ≤ 6) (hl : b.liv.length ≤ 16384) (s : Sd) (d : Nat) : (optD rowD (b.leaveR s d)).sz ≤ 150000 := by
  cases h : b.leaveR s d with
  | none => simp [optD, D.sz]
  | some r =>
    obtain ⟨_, t, _, _, _, hw, hr⟩ := leaveR_in h
    have := szL_map (f := lotD) (k := 7) (l := r) fun l hl => by
      obtain ⟨u, hu⟩ := walk_lots hw l hl
      have := lets_le hn (Bk.mem_glots.mp hu).1
      rw [sz_lot]; omega
    show (rowD r).sz ≤ _
    rw [rowD, D.sz]
    omega
theorem leaveR_good (b : Bk) (s : Sd) (d : Nat) : (optD rowD (b.leaveR s d)).good 60 := by
  cases b.leaveR s d with
  | none => exact ⟨rfl, by simp [optD, D.depth]⟩
  | some r => exact good_up (good_row r (k := 0)) (by decide)
theorem maxl_range (k : Nat) : maxl (List.range (k + 1)) = k := by
  have h1 : k ≤ maxl (List.range (k + 1)) := maxl_le (List.mem_range.mpr (by omega))
  have h2 := List.mem_range.mp (maxl_mem (l := List.range (k + 1)) (by simp))
  omega
theorem b_maxN {S : Sto} {l : List Nat} (h : l ≠ []) : bi1 .max S (.fresh (l.map nD)) = .ok (.val (nD (maxl l))) S := by
  cases l with
  | nil => exact (h rfl).elim
  | cons x l =>
    have ho := okMax_nat (x :: l)
    simp only [List.map_cons] at ho ⊢
    simp only [bi1, sq_fresh, ho, if_true, maxD_nat]
    rfl
theorem r_or0 {C : Call} {σ : Env} {S : Sto} {a : E} {n : Nat} {d : D} (hd : d = .non ∧ n = 0 ∨ d = nD n) (h : ev C a σ S = .ok (.val d) S) : ev C (.orr a (.lit (.int 0))) σ S = .ok (.val (nD n)) S := by
  rw [ev, h, bind_ok]
  rcases hd with ⟨rfl, rfl⟩ | rfl
  · rfl
  · cases n with
    | zero => rfl
    | succ n =>
      have : (Pv.val (nD (n + 1))).truth S = some true := by simp [Pv.truth]; omega
      rw [this]
theorem b_min2N {S : Sto} (i j : Nat) : bi2 .min S (nD i) (nD j) = .ok (.val (nD (min i j))) S := by
  rw [b_min2]
  congr 2
  by_cases h : j < i
  · rw [if_pos (by omega), Nat.min_eq_right (by omega)]
  · rw [if_neg (by omega), Nat.min_eq_left (by omega)]
theorem op_subN {S : Sto} {i j : Nat} (h : j ≤ i) : opB .sub S (.val (nD i)) (.val (nD j)) = .ok (.val (nD (i - j))) S := by
  rw [op_subI]
  congr 3
  omega
end Nog

set_option Elab.async false
set_option linter.all false
set_option maxRecDepth 100000
/-! the own form of the defs (printed by prn.py) -/
namespace Nog
namespace T
open PySem L2 PyProof.Rows
def top (i : Nat) : Stmt := PySem.Challenge.pw_nogapmissed_k99_whole_far.main.body.getD i (.Pass ⟨0, 0, 0, 0⟩)
abbrev i_fraction : Nat := 0
abbrev i_sum_of_shares : Nat := 1
abbrev i_done_days : Nat := 2
abbrev i_plan_lot : Nat := 3
abbrev i_moved_plan : Nat := 4
abbrev i_is_whole : Nat := 5
abbrev i_is_pair : Nat := 6
abbrev i_is_whole_pair : Nat := 7
abbrev i_is_full : Nat := 8
abbrev i_is_place : Nat := 9
abbrev i_is_chain_places : Nat := 10
abbrev i_chain_lot : Nat := 11
abbrev i_things_ahead : Nat := 12
abbrev i_even_number : Nat := 13
abbrev i_even_sum : Nat := 14
abbrev i_even_place : Nat := 15
abbrev i_inverse : Nat := 16
abbrev i_put_together : Nat := 17
abbrev i_meeting_day : Nat := 18
abbrev i_period_lot : Nat := 19
abbrev i_common_period : Nat := 20
abbrev i_keeps_gap : Nat := 21
abbrev i_keeps_gaps : Nat := 22
abbrev i_check_kinds : Nat := 23
abbrev i_both_kinds : Nat := 24
abbrev i_by_turns : Nat := 25
abbrev i_two_kinds_lot : Nat := 26
abbrev i_two_kinds_days : Nat := 27
abbrev i_L_pool : Nat := 28
abbrev i_L_draw : Nat := 29
abbrev i_L_shuffled : Nat := 30
abbrev i_L_same : Nat := 31
abbrev i_L_day : Nat := 32
abbrev i_L_plans : Nat := 33
abbrev i_L_factor : Nat := 34
abbrev i_L_met : Nat := 35
abbrev i_L_periods : Nat := 36
abbrev i_L_chains : Nat := 37
abbrev i_L_lot : Nat := 38
abbrev i_L_kinds : Nat := 39
abbrev i_law : Nat := 40
def b_fraction : List Nog.St := [
  .asg (.nm 2) (.b2 .gcd (.var 0) (.var 1)),
  .ret (.tup [(.bin .fdiv (.var 0) (.var 2)), (.bin .fdiv (.var 1) (.var 2))])]
def f_fraction : FDef := ⟨"fraction", top 2, ["top", "bottom", "common"], 2, .own, b_fraction⟩
def b_sum_of_shares : List Nog.St := [
  .asg (.tp [2, 3]) (.tup [(.lit (.int 0)), (.lit (.int 1))]),
  .fr (.nm 1) (.var 0) [
    .asg (.tp [2, 3]) (.call i_fraction [(.bin .add (.bin .mul (.var 2) (.var 1)) (.var 3)), (.bin .mul (.var 3) (.var 1))])],
  .ret (.tup [(.var 2), (.var 3)])]
def f_sum_of_shares : FDef := ⟨"sum_of_shares", top 3, ["numbers", "number", "top", "bottom"], 1, .own, b_sum_of_shares⟩
def b_done_days : List Nog.St := [
  .ret (.b1 .tuple (.lc [2, 3] (.var 2) (.tp [2, 3]) (.enu (.var 0)) [(.cmp .inn (.var 1) (.var 3))]))]
def f_done_days : FDef := ⟨"done_days", top 5, ["row", "chore", "at", "lot"], 2, .gc, b_done_days⟩
def b_plan_lot : List Nog.St := [
  .asg (.tp [2, 3]) (.var 0),
  .iff (.cmp .lt (.var 1) (.b1 .len (.var 2))) [
    .ret (.ix (.var 2) (.var 1))] [],
  .ret (.ix (.var 3) (.bin .mod (.bin .sub (.var 1) (.b1 .len (.var 2))) (.b1 .len (.var 3))))]
def f_plan_lot : FDef := ⟨"plan_lot", top 7, ["plan", "day", "head", "ring"], 2, .own, b_plan_lot⟩
def b_moved_plan : List Nog.St := [
  .asg (.tp [3, 4]) (.var 0),
  .iff (.cmp .le (.var 1) (.b1 .len (.var 3))) [
    .ret (.tup [(.sl (.var 3) (.var 1) (.lit .non)), (.var 4)])] [],
  .asg (.nm 2) (.bin .mod (.bin .sub (.var 1) (.b1 .len (.var 3))) (.b1 .len (.var 4))),
  .ret (.tup [(.tup []), (.bin .add (.sl (.var 4) (.var 2) (.lit .non)) (.sl (.var 4) (.lit .non) (.var 2)))])]
def f_moved_plan : FDef := ⟨"moved_plan", top 8, ["plan", "many", "cut", "head", "ring"], 2, .own, b_moved_plan⟩
def b_is_whole : List Nog.St := [
  .ret (.an (.isi (.var 0) .int) (.nt (.isi (.var 0) .bool)))]
def f_is_whole : FDef := ⟨"is_whole", top 13, ["value"], 1, .own, b_is_whole⟩
def b_is_pair : List Nog.St := [
  .ret (.an (.isi (.var 0) .tuple) (.cmp .eq (.b1 .len (.var 0)) (.lit (.int 2))))]
def f_is_pair : FDef := ⟨"is_pair", top 14, ["value"], 1, .own, b_is_pair⟩
def b_is_whole_pair : List Nog.St := [
  .ret (.an (.call i_is_pair [(.var 0)]) (.an (.call i_is_whole [(.ix (.var 0) (.lit (.int 0)))]) (.call i_is_whole [(.ix (.var 0) (.lit (.int 1)))])))]
def f_is_whole_pair : FDef := ⟨"is_whole_pair", top 15, ["value"], 1, .own, b_is_whole_pair⟩
def b_is_full : List Nog.St := [
  .asg (.tp [2, 3]) (.call i_sum_of_shares [(.var 0)]),
  .ret (.cmp .gt (.var 2) (.bin .mul (.var 1) (.var 3)))]
def f_is_full : FDef := ⟨"is_full", top 17, ["gaps", "hands", "top", "bottom"], 2, .own, b_is_full⟩
def b_is_place : List Nog.St := [
  .ret (.an (.call i_is_whole_pair [(.var 2)]) (.an (.chn .le .lt (.lit (.int 0)) (.ix (.var 2) (.lit (.int 0))) (.var 1)) (.chn .le .lt (.lit (.int 0)) (.ix (.var 2) (.lit (.int 1))) (.var 0))))]
def f_is_place : FDef := ⟨"is_place", top 19, ["gap", "hands", "thing"], 3, .own, b_is_place⟩
def b_is_chain_places : List Nog.St := [
  .iff (.orr (.nt (.isi (.var 2) .tuple)) (.cmp .ne (.b1 .len (.var 2)) (.b1 .len (.var 0)))) [
    .ret (.lit (.bl false))] [],
  .iff (.cmp .gt (.b1 .len (.lc [3, 4] (.var 3) (.tp [3, 4]) (.enu (.var 0)) [(.nt (.call i_is_place [(.var 4), (.var 1), (.ix (.var 2) (.var 3))]))])) (.lit (.int 0))) [
    .ret (.lit (.bl false))] [],
  .fr (.tp [3, 4]) (.enu (.var 0)) [
    .fr (.nm 5) (.rg1 (.var 3)) [
      .iff (.cmp .eq (.ix (.ix (.var 2) (.var 3)) (.lit (.int 0))) (.ix (.ix (.var 2) (.var 5)) (.lit (.int 0)))) [
        .iff (.cmp .eq (.bin .mod (.bin .sub (.ix (.ix (.var 2) (.var 3)) (.lit (.int 1))) (.ix (.ix (.var 2) (.var 5)) (.lit (.int 1)))) (.b2 .gcd (.var 4) (.ix (.var 0) (.var 5)))) (.lit (.int 0))) [
          .ret (.lit (.bl false))] []] []]],
  .ret (.lit (.bl true))]
def f_is_chain_places : FDef := ⟨"is_chain_places", top 20, ["gaps", "hands", "thing", "at", "gap", "other"], 3, .own, b_is_chain_places⟩
def b_chain_lot : List Nog.St := [
  .ret (.b1 .tuple (.lc [3, 4] (.var 3) (.tp [3, 4]) (.enu (.var 0)) [(.cmp .eq (.bin .mod (.var 2) (.var 4)) (.ix (.ix (.var 1) (.var 3)) (.lit (.int 1))))]))]
def f_chain_lot : FDef := ⟨"chain_lot", top 21, ["gaps", "places", "day", "at", "gap"], 3, .own, b_chain_lot⟩
def b_things_ahead : List Nog.St := [
  .ret (.bin .fdiv (.bin .mul (.var 2) (.var 0)) (.var 1))]
def f_things_ahead : FDef := ⟨"things_ahead", top 23, ["many", "days", "day"], 3, .own, b_things_ahead⟩
def b_even_number : List Nog.St := [
  .ret (.bin .sub (.call i_things_ahead [(.var 0), (.var 1), (.bin .add (.var 2) (.lit (.int 1)))]) (.call i_things_ahead [(.var 0), (.var 1), (.var 2)]))]
def f_even_number : FDef := ⟨"even_number", top 24, ["many", "days", "day"], 3, .own, b_even_number⟩
def b_even_sum : List Nog.St := [
  .ret (.bin .sub (.call i_things_ahead [(.var 0), (.var 1), (.var 3)]) (.call i_things_ahead [(.var 0), (.var 1), (.var 2)]))]
def f_even_sum : FDef := ⟨"even_sum", top 25, ["many", "days", "first", "last"], 4, .own, b_even_sum⟩
def b_even_place : List Nog.St := [
  .ret (.bin .fdiv (.bin .sub (.bin .mul (.bin .add (.var 2) (.lit (.int 1))) (.var 1)) (.lit (.int 1))) (.var 0))]
def f_even_place : FDef := ⟨"even_place", top 26, ["many", "days", "number"], 3, .own, b_even_place⟩
def b_inverse : List Nog.St := [
  .par 2 3 (.var 1) (.bin .mod (.var 0) (.var 1)),
  .asg (.tp [4, 5]) (.tup [(.lit (.int 0)), (.lit (.int 1))]),
  .whl (.cmp .gt (.var 3) (.lit (.int 1))) [
    .asg (.nm 6) (.bin .fdiv (.var 2) (.var 3)),
    .par 2 3 (.var 3) (.bin .sub (.var 2) (.bin .mul (.var 6) (.var 3))),
    .par 4 5 (.var 5) (.bin .sub (.var 4) (.bin .mul (.var 6) (.var 5)))],
  .ret (.bin .mod (.var 5) (.var 1))]
def f_inverse : FDef := ⟨"inverse", top 28, ["number", "modulus", "high", "low", "before", "now", "part"], 2, .own, b_inverse⟩
def b_put_together : List Nog.St := [
  .asg (.nm 4) (.b2 .gcd (.var 1) (.var 3)),
  .iff (.cmp .ne (.bin .mod (.bin .sub (.var 2) (.var 0)) (.var 4)) (.lit (.int 0))) [
    .ret (.lit .non)] [],
  .asg (.nm 5) (.bin .fdiv (.var 3) (.var 4)),
  .iff (.cmp .eq (.var 5) (.lit (.int 1))) [
    .ret (.var 0)] [],
  .asg (.nm 6) (.bin .mod (.bin .mul (.bin .fdiv (.bin .sub (.var 2) (.var 0)) (.var 4)) (.call i_inverse [(.bin .fdiv (.var 1) (.var 4)), (.var 5)])) (.var 5)),
  .ret (.bin .add (.var 0) (.bin .mul (.var 6) (.var 1)))]
def f_put_together : FDef := ⟨"put_together", top 29, ["day", "period", "begin", "other", "common", "step", "turns"], 4, .own, b_put_together⟩
def b_meeting_day : List Nog.St := [
  .asg (.tp [4, 5]) (.tup [(.lit (.int 0)), (.lit (.int 1))]),
  .fr (.nm 3) (.var 2) [
    .asg (.nm 4) (.call i_put_together [(.var 4), (.var 5), (.ix (.var 1) (.var 3)), (.ix (.var 0) (.var 3))]),
    .iff (.isn (.var 4)) [
      .ret (.lit .non)] [],
    .asg (.nm 5) (.b2 .lcm (.var 5) (.ix (.var 0) (.var 3))),
    .asg (.nm 4) (.bin .mod (.var 4) (.var 5))],
  .ret (.var 4)]
def f_meeting_day : FDef := ⟨"meeting_day", top 30, ["periods", "beginnings", "lot", "chore", "day", "period"], 3, .own, b_meeting_day⟩
def b_period_lot : List Nog.St := [
  .ret (.b1 .tuple (.lc [3, 4] (.var 3) (.tp [3, 4]) (.enu (.var 0)) [(.cmp .eq (.bin .mod (.var 2) (.var 4)) (.ix (.var 1) (.var 3)))]))]
def f_period_lot : FDef := ⟨"period_lot", top 32, ["periods", "beginnings", "day", "at", "period"], 3, .own, b_period_lot⟩
def b_common_period : List Nog.St := [
  .asg (.nm 1) (.lit (.int 1)),
  .fr (.nm 2) (.var 0) [
    .asg (.nm 1) (.b2 .lcm (.var 1) (.var 2))],
  .ret (.var 1)]
def f_common_period : FDef := ⟨"common_period", top 33, ["periods", "common", "period"], 1, .own, b_common_period⟩
def b_keeps_gap : List Nog.St := [
  .asg (.nm 3) (.neg (.lit (.int 1))),
  .fr (.nm 4) (.bin .add (.call i_done_days [(.var 0), (.var 1)]) (.tup [(.b1 .len (.var 0))])) [
    .iff (.cmp .ge (.bin .sub (.bin .sub (.var 4) (.var 3)) (.lit (.int 1))) (.var 2)) [
      .ret (.lit (.bl false))] [],
    .asg (.nm 3) (.var 4)],
  .ret (.lit (.bl true))]
def f_keeps_gap : FDef := ⟨"keeps_gap", top 35, ["lots", "chore", "gap", "last", "day"], 3, .own, b_keeps_gap⟩
def b_keeps_gaps : List Nog.St := [
  .iff (.cmp .gt (.b1 .len (.lc [3] (.var 3) (.nm 3) (.var 2) [(.cmp .gt (.b1 .len (.var 3)) (.var 1))])) (.lit (.int 0))) [
    .ret (.lit (.bl false))] [],
  .ret (.cmp .eq (.b1 .len (.lc [4, 5] (.var 4) (.tp [4, 5]) (.enu (.var 0)) [(.nt (.call i_keeps_gap [(.var 2), (.var 4), (.var 5)]))])) (.lit (.int 0)))]
def f_keeps_gaps : FDef := ⟨"keeps_gaps", top 36, ["gaps", "hands", "lots", "lot", "at", "gap"], 3, .own, b_keeps_gaps⟩
def b_check_kinds : List Nog.St := [
  .iff (.cmp .gt (.lset (.var 0)) (.lit (.int 2))) [
    .bad] [],
  .iff (.call i_is_full [(.var 0), (.var 1)]) [
    .bad] []]
def f_check_kinds : FDef := ⟨"check_kinds", top 38, ["gaps", "hands"], 2, .own, b_check_kinds⟩
def b_both_kinds : List Nog.St := [
  .asg (.nm 1) (.b1 .min (.var 0)),
  .asg (.nm 2) (.lc [3, 4] (.var 3) (.tp [3, 4]) (.enu (.var 0)) [(.cmp .eq (.var 4) (.var 1))]),
  .ret (.tup [(.var 2), (.lc [3, 4] (.var 3) (.tp [3, 4]) (.enu (.var 0)) [(.cmp .ne (.var 4) (.var 1))])])]
def f_both_kinds : FDef := ⟨"both_kinds", top 39, ["gaps", "least", "lesser", "at", "gap"], 1, .raw, b_both_kinds⟩
def b_by_turns : List Nog.St := [
  .ret (.lc [3] (.ix (.var 0) (.bin .mod (.bin .add (.var 1) (.var 3)) (.b1 .len (.var 0)))) (.nm 3) (.rg1 (.b2 .min (.var 2) (.b1 .len (.var 0)))) [])]
def f_by_turns : FDef := ⟨"by_turns", top 40, ["chores", "begin", "many", "at"], 3, .raw, b_by_turns⟩
def b_two_kinds_lot : List Nog.St := [
  .ex (.call i_check_kinds [(.var 0), (.var 1)]),
  .asg (.tp [6, 7]) (.call i_both_kinds [(.var 0)]),
  .asg (.nm 3) (.call i_things_ahead [(.b1 .len (.var 6)), (.b1 .min (.var 0)), (.var 2)]),
  .asg (.nm 4) (.call i_even_number [(.b1 .len (.var 6)), (.b1 .min (.var 0)), (.var 2)]),
  .asg (.nm 5) (.call i_by_turns [(.var 6), (.var 3), (.var 4)]),
  .iff (.cmp .gt (.b1 .len (.var 7)) (.lit (.int 0))) [
    .asg (.nm 5) (.bin .add (.var 5) (.call i_by_turns [(.var 7), (.bin .sub (.bin .mul (.var 1) (.var 2)) (.var 3)), (.bin .sub (.var 1) (.var 4))]))] [],
  .ret (.b1 .tuple (.b1 .sorted (.var 5)))]
def f_two_kinds_lot : FDef := ⟨"two_kinds_lot", top 41, ["gaps", "hands", "day", "ahead", "today", "lot", "lesser", "others"], 3, .own, b_two_kinds_lot⟩
def b_two_kinds_days : List Nog.St := [
  .ex (.call i_check_kinds [(.var 0), (.var 1)]),
  .ret (.b1 .tuple (.lc [5] (.var 5) (.nm 5) (.rg2 (.var 3) (.var 4)) [(.cmp .inn (.var 2) (.call i_two_kinds_lot [(.var 0), (.var 1), (.var 5)]))]))]
def f_two_kinds_days : FDef := ⟨"two_kinds_days", top 42, ["gaps", "hands", "chore", "first", "last", "day"], 5, .own, b_two_kinds_days⟩
def b_L_pool : List Nog.St := [
  .ret (.lst [(.lc [1] (.b1 .abs (.b1 .int (.var 1))) (.nm 1) (.sl (.var 0) (.lit .non) (.lit (.int 63))) []), (.lit (.int 0)), (.lit (.int 0)), (.lit (.int 23159))])]
def f_L_pool : FDef := ⟨"_law_pool", top 44, ["script", "cell"], 1, .raw, b_L_pool⟩
def b_L_draw : List Nog.St := [
  .iff (.cmp .gt (.ix (.var 0) (.lit (.int 2))) (.lit (.int 0))) [
    .asg (.nm 4) (.bin .mod (.b1 .int (.ix (.var 0) (.lit (.int 2)))) (.var 1)),
    .put (.var 0) (.lit (.int 2)) (.bin .fdiv (.ix (.var 0) (.lit (.int 2))) (.var 1)),
    .ret (.var 4)] [],
  .asg (.nm 2) (.ix (.var 0) (.lit (.int 1))),
  .iff (.cmp .lt (.ix (.var 0) (.lit (.int 1))) (.b1 .len (.ix (.var 0) (.lit (.int 0))))) [
    .asg (.nm 2) (.bin .mod (.b1 .int (.ix (.ix (.var 0) (.lit (.int 0))) (.ix (.var 0) (.lit (.int 1))))) (.bin .pow (.bin .pow (.lit (.int 10)) (.lit (.int 60))) (.lit (.int 5))))] [],
  .augp (.var 0) (.lit (.int 1)) .add (.lit (.int 1)),
  .iff (.cmp .ge (.var 2) (.bin .pow (.lit (.int 10)) (.lit (.int 18)))) [
    .put (.var 0) (.lit (.int 2)) (.bin .fdiv (.var 2) (.var 1)),
    .ret (.bin .mod (.b1 .int (.var 2)) (.var 1))] [],
  .put (.var 0) (.lit (.int 3)) (.bin .mod (.b1 .int (.bin .add (.bin .add (.bin .mul (.ix (.var 0) (.lit (.int 3))) (.lit (.int 1664525263))) (.bin .mul (.var 2) (.lit (.int 129001)))) (.lit (.int 14503)))) (.lit (.int 2305843009213693951))),
  .asg (.nm 3) (.bin .mod (.b1 .int (.bin .mul (.ix (.var 0) (.lit (.int 3))) (.ix (.var 0) (.lit (.int 3))))) (.lit (.int 2147482073))),
  .ret (.bin .mod (.bin .fdiv (.var 3) (.lit (.int 32))) (.var 1))]
def f_L_draw : FDef := ⟨"_law_draw", top 45, ["pool", "many", "cell", "mixed", "digit"], 2, .raw, b_L_draw⟩
def b_L_shuffled : List Nog.St := [
  .asg (.nm 2) (.b1 .list (.var 1)),
  .asg (.nm 3) (.lst []),
  .fr (.nm 4) (.rg1 (.b1 .len (.var 1))) [
    .ex (.ms .append (.var 3) [(.ms .pop (.var 2) [(.call i_L_draw [(.var 0), (.b1 .len (.var 2))])])])],
  .ret (.var 3)]
def f_L_shuffled : FDef := ⟨"_law_shuffled", top 46, ["pool", "row", "left", "told", "lap"], 2, .raw, b_L_shuffled⟩
def b_L_same : List Nog.St := [
  .asg (.nm 2) (.lst [(.tup [(.var 0), (.var 1)])]),
  .whl (.var 2) [
    .asg (.tp [3, 4]) (.ms .pop (.var 2) []),
    .iff (.isn (.var 4)) [
      .iff (.nisn (.var 3)) [
        .ret (.lit (.bl false))] []] [
      .iff (.isi (.var 4) .bool) [
        .iff (.orr (.nt (.isi (.var 3) .bool)) (.cmp .ne (.var 3) (.var 4))) [
          .ret (.lit (.bl false))] []] [
        .iff (.isi (.var 4) .int) [
          .iff (.orr (.isi (.var 3) .bool) (.orr (.nt (.isi (.var 3) .int)) (.cmp .ne (.var 3) (.var 4)))) [
            .ret (.lit (.bl false))] []] [
          .iff (.isi (.var 4) .str) [
            .iff (.orr (.nt (.isi (.var 3) .str)) (.cmp .ne (.var 3) (.var 4))) [
              .ret (.lit (.bl false))] []] [
            .iff (.isi (.var 4) .tuple) [
              .iff (.orr (.nt (.isi (.var 3) .tuple)) (.cmp .ne (.b1 .len (.var 3)) (.b1 .len (.var 4)))) [
                .ret (.lit (.bl false))] [],
              .ex (.ext (.var 2) (.lc [5] (.tup [(.ix (.var 3) (.var 5)), (.ix (.var 4) (.var 5))]) (.nm 5) (.rg1 (.b1 .len (.var 4))) []))] [
              .iff (.orr (.nt (.isi (.var 3) .list)) (.cmp .ne (.b1 .len (.var 3)) (.b1 .len (.var 4)))) [
                .ret (.lit (.bl false))] [],
              .ex (.ext (.var 2) (.lc [5] (.tup [(.ix (.var 3) (.var 5)), (.ix (.var 4) (.var 5))]) (.nm 5) (.rg1 (.b1 .len (.var 4))) []))]]]]]],
  .ret (.lit (.bl true))]
def f_L_same : FDef := ⟨"_law_same", top 47, ["told", "due", "queue", "one", "other", "at"], 2, .own, b_L_same⟩
def b_L_day : List Nog.St := [
  .asg (.nm 1) (.call i_L_draw [(.var 0), (.lit (.int 5))]),
  .iff (.cmp .eq (.var 1) (.lit (.int 0))) [
    .ret (.call i_L_draw [(.var 0), (.lit (.int 60))])] [],
  .iff (.cmp .eq (.var 1) (.lit (.int 1))) [
    .ret (.bin .sub (.bin .pow (.lit (.int 10)) (.lit (.int 18))) (.call i_L_draw [(.var 0), (.lit (.int 50))]))] [],
  .ret (.bin .add (.bin .mul (.call i_L_draw [(.var 0), (.bin .pow (.lit (.int 10)) (.lit (.int 6)))]) (.ix (.tup [(.lit (.int 1)), (.bin .pow (.lit (.int 10)) (.lit (.int 6))), (.bin .pow (.lit (.int 10)) (.lit (.int 12)))]) (.bin .sub (.var 1) (.lit (.int 2))))) (.call i_L_draw [(.var 0), (.bin .pow (.lit (.int 10)) (.lit (.int 6)))]))]
def f_L_day : FDef := ⟨"_law_day", top 48, ["pool", "kind"], 1, .raw, b_L_day⟩
def b_L_plans : List Nog.St := [
  .asg (.nm 1) (.bin .add (.lit (.int 1)) (.call i_L_draw [(.var 0), (.lit (.int 6))])),
  .asg (.nm 2) (.lst []),
  .fr (.nm 3) (.rg1 (.bin .add (.lit (.int 1)) (.call i_L_draw [(.var 0), (.lit (.int 12))]))) [
    .ex (.ms .append (.var 2) [(.b1 .tuple (.lc [10] (.var 10) (.nm 10) (.rg1 (.var 1)) [(.cmp .eq (.call i_L_draw [(.var 0), (.lit (.int 2))]) (.lit (.int 0)))]))])],
  .ex (.ms .append (.var 2) [(.b1 .tuple (.rg1 (.var 1)))]),
  .asg (.nm 2) (.b1 .tuple (.call i_L_shuffled [(.var 0), (.var 2)])),
  .asg (.nm 4) (.sl (.var 2) (.bin .sub (.b1 .len (.var 2)) (.call i_L_draw [(.var 0), (.b1 .len (.var 2))])) (.lit .non)),
  .asg (.nm 5) (.tup [(.var 4), (.var 2)]),
  .fr (.nm 3) (.rg1 (.lit (.int 4))) [
    .asg (.nm 6) (.call i_L_day [(.var 0)]),
    .asg (.nm 7) (.ite (.cmp .lt (.var 6) (.b1 .len (.var 4))) (.ix (.var 4) (.var 6)) (.ix (.var 2) (.bin .mod (.b1 .int (.bin .sub (.var 6) (.b1 .len (.var 4)))) (.b1 .len (.var 2))))),
    .iff (.nt (.call i_L_same [(.call i_plan_lot [(.var 5), (.var 6)]), (.var 7)])) [
      .ret (.lit (.bl false))] [],
    .asg (.nm 8) (.ix (.tup [(.call i_L_draw [(.var 0), (.lit (.int 30))]), (.call i_L_day [(.var 0)])]) (.call i_L_draw [(.var 0), (.lit (.int 2))])),
    .asg (.nm 9) (.ite (.cmp .gt (.var 8) (.b1 .len (.var 4))) (.bin .mod (.b1 .int (.bin .sub (.var 8) (.b1 .len (.var 4)))) (.b1 .len (.var 2))) (.lit (.int 0))),
    .iff (.nt (.call i_L_same [(.call i_moved_plan [(.var 5), (.var 8)]), (.tup [(.sl (.var 4) (.b2 .min (.var 8) (.b1 .len (.var 4))) (.lit .non)), (.bin .add (.sl (.var 2) (.var 9) (.lit .non)) (.sl (.var 2) (.lit .non) (.var 9)))])])) [
      .ret (.lit (.bl false))] []],
  .ret (.lit (.bl true))]
def f_L_plans : FDef := ⟨"_law_plans", top 49, ["pool", "chores", "ring", "lap", "head", "plan", "day", "due", "many", "at", "chore"], 1, .raw, b_L_plans⟩
def b_L_factor : List Nog.St := [
  .whl (.cmp .gt (.var 1) (.lit (.int 0))) [
    .par 0 1 (.var 1) (.bin .mod (.b1 .int (.var 0)) (.var 1))],
  .ret (.var 0)]
def f_L_factor : FDef := ⟨"_law_factor", top 50, ["one", "other"], 2, .own, b_L_factor⟩
def b_L_met : List Nog.St := [
  .asg (.tp [4, 5]) (.tup [(.lit (.int 0)), (.lit (.int 1))]),
  .fr (.nm 3) (.var 2) [
    .asg (.nm 6) (.ix (.var 0) (.var 3)),
    .asg (.nm 7) (.call i_L_factor [(.var 5), (.var 6)]),
    .iff (.cmp .ne (.bin .mod (.b1 .int (.bin .sub (.ix (.var 1) (.var 3)) (.var 4))) (.var 7)) (.lit (.int 0))) [
      .ret (.lit .non)] [],
    .asg (.nm 8) (.bin .fdiv (.b1 .int (.bin .sub (.ix (.var 1) (.var 3)) (.var 4))) (.var 7)),
    .asg (.nm 9) (.bin .fdiv (.var 6) (.var 7)),
    .asg (.tp [10, 11, 12, 13]) (.tup [(.bin .fdiv (.var 5) (.var 7)), (.var 9), (.lit (.int 1)), (.lit (.int 0))]),
    .whl (.cmp .gt (.var 11) (.lit (.int 0))) [
      .asg (.nm 14) (.bin .fdiv (.var 10) (.var 11)),
      .par 10 11 (.var 11) (.bin .sub (.var 10) (.bin .mul (.var 14) (.var 11))),
      .par 12 13 (.var 13) (.bin .sub (.var 12) (.bin .mul (.var 14) (.var 13)))],
    .asg (.nm 4) (.bin .add (.var 4) (.bin .mul (.var 5) (.bin .mod (.b1 .int (.bin .mul (.var 8) (.var 12))) (.var 9)))),
    .asg (.nm 5) (.bin .mul (.var 5) (.var 9))],
  .ret (.bin .mod (.b1 .int (.var 4)) (.var 5))]
def f_L_met : FDef := ⟨"_law_met", top 51, ["periods", "beginnings", "lot", "chore", "day", "step", "period", "factor", "want", "size", "one", "other", "first", "second", "times"], 3, .own, b_L_met⟩
def b_L_periods : List Nog.St := [
  .asg (.nm 1) (.bin .add (.lit (.int 1)) (.call i_L_draw [(.var 0), (.lit (.int 6))])),
  .asg (.nm 2) (.ix (.tup [(.lit (.int 6)), (.lit (.int 12)), (.lit (.int 60)), (.bin .pow (.lit (.int 10)) (.lit (.int 6)))]) (.call i_L_draw [(.var 0), (.lit (.int 4))])),
  .asg (.nm 3) (.b1 .tuple (.lc [13] (.bin .add (.lit (.int 1)) (.call i_L_draw [(.var 0), (.var 2)])) (.nm 13) (.rg1 (.var 1)) [])),
  .asg (.nm 4) (.b1 .tuple (.lc [6] (.call i_L_draw [(.var 0), (.var 6)]) (.nm 6) (.var 3) [])),
  .iff (.cmp .eq (.call i_L_draw [(.var 0), (.lit (.int 2))]) (.lit (.int 0))) [
    .asg (.nm 9) (.call i_L_day [(.var 0)]),
    .asg (.nm 4) (.b1 .tuple (.lc [6] (.bin .mod (.b1 .int (.var 9)) (.var 6)) (.nm 6) (.var 3) []))] [],
  .asg (.nm 5) (.lit (.int 1)),
  .fr (.nm 6) (.var 3) [
    .asg (.nm 5) (.bin .mul (.bin .fdiv (.var 5) (.call i_L_factor [(.var 5), (.var 6)])) (.var 6))],
  .iff (.nt (.call i_L_same [(.call i_common_period [(.var 3)]), (.var 5)])) [
    .ret (.lit (.bl false))] [],
  .asg (.nm 7) (.lst [(.tup []), (.b1 .tuple (.rg1 (.var 1))), (.b1 .tuple (.lc [14] (.var 14) (.nm 14) (.rg1 (.var 1)) [(.cmp .eq (.call i_L_draw [(.var 0), (.lit (.int 2))]) (.lit (.int 0)))]))]),
  .fr (.nm 8) (.var 7) [
    .asg (.nm 10) (.call i_L_met [(.var 3), (.var 4), (.var 8)]),
    .iff (.nt (.call i_L_same [(.call i_meeting_day [(.var 3), (.var 4), (.var 8)]), (.var 10)])) [
      .ret (.lit (.bl false))] [],
    .asg (.nm 11) (.call i_L_day [(.var 0)]),
    .iff (.an (.nisn (.var 10)) (.cmp .lt (.var 10) (.bin .pow (.lit (.int 10)) (.lit (.int 17))))) [
      .asg (.nm 11) (.bin .add (.var 10) (.bin .mul (.var 5) (.call i_L_draw [(.var 0), (.b2 .max (.lit (.int 1)) (.b2 .min (.lit (.int 9)) (.bin .fdiv (.bin .pow (.lit (.int 10)) (.lit (.int 17))) (.var 5))))])))] [],
    .asg (.nm 12) (.b1 .tuple (.lc [14] (.var 14) (.nm 14) (.rg1 (.var 1)) [(.cmp .eq (.bin .mod (.b1 .int (.var 11)) (.ix (.var 3) (.var 14))) (.ix (.var 4) (.var 14)))])),
    .iff (.nt (.call i_L_same [(.call i_period_lot [(.var 3), (.var 4), (.var 11)]), (.var 12)])) [
      .ret (.lit (.bl false))] []],
  .ret (.lit (.bl true))]
def f_L_periods : FDef := ⟨"_law_periods", top 52, ["pool", "many", "habit", "periods", "beginnings", "whole", "period", "lots", "lot", "far", "due", "day", "there", "lap", "chore"], 1, .raw, b_L_periods⟩
def b_L_chains : List Nog.St := [
  .asg (.nm 1) (.bin .add (.lit (.int 1)) (.call i_L_draw [(.var 0), (.lit (.int 3))])),
  .asg (.nm 2) (.bin .add (.lit (.int 1)) (.call i_L_draw [(.var 0), (.lit (.int 3))])),
  .asg (.nm 3) (.lst []),
  .fr (.nm 4) (.rg1 (.var 1)) [
    .ex (.ext (.var 3) (.lc [13] (.tup [(.var 4), (.var 13)]) (.nm 13) (.rg1 (.var 2)) []))],
  .asg (.tp [6, 7]) (.tup [(.lst []), (.lst [])]),
  .fr (.nm 5) (.rg1 (.lit (.int 4))) [
    .fr (.nm 8) (.rg1 (.call i_L_draw [(.var 0), (.lit (.int 3))])) [
      .iff (.cmp .gt (.b1 .len (.var 3)) (.lit (.int 1))) [
        .ex (.ms .append (.var 7) [(.ms .pop (.var 3) [(.call i_L_draw [(.var 0), (.b1 .len (.var 3))])])]),
        .ex (.ms .append (.var 6) [(.var 2)])] []],
    .asg (.nm 9) (.bin .add (.lit (.int 1)) (.call i_L_draw [(.var 0), (.ix (.tup [(.lit (.int 3)), (.lit (.int 60))]) (.call i_L_draw [(.var 0), (.lit (.int 2))]))])),
    .asg (.nm 10) (.lst []),
    .fr (.tp [4, 13]) (.sl (.var 3) (.lit .non) (.lit (.int 20))) [
      .ex (.ext (.var 10) (.lc [15] (.tup [(.var 4), (.bin .add (.var 13) (.bin .mul (.var 2) (.var 15)))]) (.nm 15) (.rg1 (.b2 .min (.var 9) (.lit (.int 8)))) []))],
    .asg (.tp [2, 3]) (.tup [(.bin .mul (.var 2) (.var 9)), (.var 10)])],
  .iff (.nt (.var 6)) [
    .ret (.lit (.bl true))] [],
  .asg (.tp [6, 7]) (.tup [(.b1 .tuple (.var 6)), (.b1 .tuple (.var 7))]),
  .iff (.nt (.call i_L_same [(.call i_is_chain_places [(.var 6), (.var 1), (.var 7)]), (.lit (.bl true))])) [
    .ret (.lit (.bl false))] [],
  .fr (.nm 5) (.rg1 (.lit (.int 4))) [
    .asg (.nm 11) (.call i_L_day [(.var 0)]),
    .asg (.nm 12) (.b1 .tuple (.lc [14] (.var 14) (.nm 14) (.rg1 (.b1 .len (.var 6))) [(.cmp .eq (.bin .mod (.b1 .int (.var 11)) (.ix (.var 6) (.var 14))) (.ix (.ix (.var 7) (.var 14)) (.lit (.int 1))))])),
    .iff (.orr (.nt (.call i_L_same [(.callk i_chain_lot [2, 1, 0] [(.var 11), (.var 7), (.var 6)]), (.var 12)])) (.cmp .gt (.b1 .len (.var 12)) (.var 1))) [
      .ret (.lit (.bl false))] []],
  .ret (.lit (.bl true))]
def f_L_chains : FDef := ⟨"_law_chains", top 53, ["pool", "hands", "gap", "free", "hand", "lap", "gaps", "places", "turn", "times", "after", "day", "due", "rest", "chore", "k"], 1, .raw, b_L_chains⟩
def b_L_lot : List Nog.St := [
  .asg (.nm 3) (.b1 .min (.var 0)),
  .asg (.nm 4) (.lc [13] (.var 13) (.nm 13) (.rg1 (.b1 .len (.var 0))) [(.cmp .eq (.ix (.var 0) (.var 13)) (.var 3))]),
  .asg (.nm 5) (.lc [13] (.var 13) (.nm 13) (.rg1 (.b1 .len (.var 0))) [(.cmp .ne (.ix (.var 0) (.var 13)) (.var 3))]),
  .asg (.tp [7, 8]) (.tup [(.b1 .len (.var 4)), (.b1 .len (.var 5))]),
  .par 9 10 (.bin .fdiv (.bin .mul (.var 2) (.var 7)) (.var 3)) (.bin .fdiv (.bin .mul (.bin .add (.var 2) (.lit (.int 1))) (.var 7)) (.var 3)),
  .asg (.nm 6) (.lc [14] (.ix (.var 4) (.bin .mod (.b1 .int (.var 14)) (.var 7))) (.nm 14) (.rg2 (.var 9) (.var 10)) []),
  .asg (.tp [11, 12]) (.tup [(.bin .sub (.bin .mul (.var 1) (.var 2)) (.var 9)), (.bin .sub (.var 1) (.bin .sub (.var 10) (.var 9)))]),
  .iff (.cmp .gt (.var 8) (.lit (.int 0))) [
    .ex (.ext (.var 6) (.lc [14] (.ix (.var 5) (.bin .mod (.b1 .int (.bin .add (.var 11) (.var 14))) (.var 8))) (.nm 14) (.rg1 (.b2 .min (.var 12) (.var 8))) []))] [],
  .ret (.b1 .tuple (.b1 .sorted (.var 6)))]
def f_L_lot : FDef := ⟨"_law_lot", top 54, ["gaps", "hands", "day", "a", "firsts", "others", "lot", "m", "n", "ahead", "behind", "begin", "left", "chore", "turn"], 3, .own, b_L_lot⟩
def b_L_kinds : List Nog.St := [
  .asg (.nm 1) (.bin .add (.lit (.int 1)) (.call i_L_draw [(.var 0), (.ix (.tup [(.lit (.int 6)), (.lit (.int 40))]) (.call i_L_draw [(.var 0), (.lit (.int 2))]))])),
  .asg (.nm 2) (.bin .add (.var 1) (.call i_L_draw [(.var 0), (.ix (.tup [(.lit (.int 3)), (.lit (.int 30))]) (.call i_L_draw [(.var 0), (.lit (.int 2))]))])),
  .asg (.nm 3) (.bin .add (.lit (.int 1)) (.call i_L_draw [(.var 0), (.lit (.int 3))])),
  .asg (.nm 4) (.call i_L_draw [(.var 0), (.bin .add (.b2 .min (.lit (.int 12)) (.bin .mul (.var 3) (.var 1))) (.lit (.int 1)))]),
  .asg (.nm 5) (.bin .fdiv (.bin .mul (.bin .sub (.bin .mul (.var 3) (.var 1)) (.var 4)) (.var 2)) (.var 1)),
  .asg (.nm 6) (.ite (.call i_L_draw [(.var 0), (.lit (.int 2))]) (.b2 .min (.lit (.int 12)) (.var 5)) (.call i_L_draw [(.var 0), (.bin .add (.b2 .min (.lit (.int 12)) (.var 5)) (.lit (.int 1)))])),
  .iff (.cmp .eq (.bin .add (.var 4) (.var 6)) (.lit (.int 0))) [
    .asg (.nm 4) (.lit (.int 1))] [],
  .asg (.nm 7) (.b1 .tuple (.call i_L_shuffled [(.var 0), (.bin .add (.bin .mul (.lst [(.var 1)]) (.var 4)) (.bin .mul (.lst [(.var 2)]) (.var 6)))])),
  .asg (.nm 8) (.bin .fdiv (.call i_L_day [(.var 0)]) (.lit (.int 2))),
  .asg (.nm 9) (.b1 .tuple (.lc [10] (.call i_L_lot [(.var 7), (.var 3), (.bin .add (.var 8) (.var 10))]) (.nm 10) (.rg1 (.lit (.int 30))) [])),
  .fr (.nm 10) (.tup [(.lit (.int 0)), (.lit (.int 1)), (.lit (.int 29)), (.call i_L_draw [(.var 0), (.lit (.int 30))])]) [
    .iff (.nt (.call i_L_same [(.call i_two_kinds_lot [(.var 7), (.var 3), (.bin .add (.var 8) (.var 10))]), (.ix (.var 9) (.var 10))])) [
      .ret (.lit (.bl false))] []],
  .asg (.nm 11) (.call i_L_draw [(.var 0), (.b1 .len (.var 7))]),
  .asg (.nm 12) (.b1 .tuple (.lc [10] (.bin .add (.var 8) (.var 10)) (.nm 10) (.rg1 (.lit (.int 30))) [(.cmp .inn (.var 11) (.ix (.var 9) (.var 10)))])),
  .iff (.nt (.call i_L_same [(.call i_two_kinds_days [(.var 7), (.var 3), (.var 11), (.var 8), (.bin .add (.var 8) (.lit (.int 30)))]), (.var 12)])) [
    .ret (.lit (.bl false))] [],
  .iff (.nt (.call i_L_same [(.call i_keeps_gaps [(.var 7), (.var 3), (.var 9)]), (.lit (.bl true))])) [
    .ret (.lit (.bl false))] [],
  .par 15 16 (.bin .add (.lit (.int 1)) (.call i_L_draw [(.var 0), (.lit (.int 50))])) (.bin .add (.lit (.int 1)) (.call i_L_draw [(.var 0), (.lit (.int 50))])),
  .asg (.nm 13) (.call i_L_day [(.var 0)]),
  .asg (.nm 12) (.tup [(.bin .sub (.bin .fdiv (.bin .mul (.bin .add (.var 13) (.lit (.int 1))) (.var 15)) (.var 16)) (.bin .fdiv (.bin .mul (.var 13) (.var 15)) (.var 16))), (.bin .fdiv (.bin .mul (.var 13) (.var 15)) (.var 16))]),
  .iff (.nt (.call i_L_same [(.tup [(.call i_even_number [(.var 15), (.var 16), (.var 13)]), (.call i_even_sum [(.var 15), (.var 16), (.lit (.int 0)), (.var 13)])]), (.var 12)])) [
    .ret (.lit (.bl false))] [],
  .asg (.nm 14) (.call i_L_day [(.var 0)]),
  .ret (.call i_L_same [(.call i_even_place [(.var 15), (.var 16), (.var 14)]), (.bin .sub (.bin .sub (.lit (.int 0)) (.bin .fdiv (.bin .sub (.lit (.int 0)) (.bin .mul (.bin .add (.var 14) (.lit (.int 1))) (.var 16))) (.var 15))) (.lit (.int 1)))])]
def f_L_kinds : FDef := ⟨"_law_kinds", top 55, ["pool", "a", "b", "hands", "m", "room", "n", "gaps", "first", "lots", "k", "chore", "due", "day", "number", "many", "days"], 1, .raw, b_L_kinds⟩
def b_law : List Nog.St := [
  .asg (.nm 1) (.call i_L_pool [(.var 0)]),
  .fr (.nm 2) (.rg1 (.lit (.int 3))) [
    .iff (.orr (.nt (.call i_L_plans [(.var 1)])) (.orr (.nt (.call i_L_periods [(.var 1)])) (.orr (.nt (.call i_L_chains [(.var 1)])) (.nt (.call i_L_kinds [(.var 1)]))))) [
      .ret (.lit (.bl false))] []],
  .asg (.nm 3) (.tup [(.tup [(.tup [(.lit (.int 0))])]), (.tup [(.tup [(.lit (.int 1))]), (.tup [(.lit (.int 0))]), (.tup [(.lit (.int 2))]), (.tup [(.lit (.int 0))])])]),
  .iff (.nt (.call i_L_same [(.tup [(.call i_plan_lot [(.var 3), (.bin .pow (.lit (.int 10)) (.lit (.int 18)))]), (.call i_two_kinds_lot [(.tup [(.lit (.int 2)), (.lit (.int 5)), (.lit (.int 5))]), (.lit (.int 1)), (.bin .pow (.lit (.int 10)) (.lit (.int 18)))])]), (.tup [(.tup [(.lit (.int 0))]), (.tup [(.lit (.int 1))])])])) [
    .ret (.lit (.bl false))] [],
  .ret (.call i_L_same [(.tup [(.call i_meeting_day [(.tup [(.lit (.int 4)), (.lit (.int 6))]), (.tup [(.lit (.int 0)), (.lit (.int 1))]), (.tup [(.lit (.int 0)), (.lit (.int 1))])]), (.call i_meeting_day [(.tup [(.lit (.int 4)), (.lit (.int 6)), (.lit (.int 9))]), (.tup [(.lit (.int 1)), (.lit (.int 3)), (.lit (.int 0))]), (.tup [(.lit (.int 0)), (.lit (.int 1)), (.lit (.int 2))])])]), (.tup [(.lit .non), (.lit (.int 9))])])]
def f_law : FDef := ⟨"law", top 56, ["script", "pool", "lap", "plan"], 1, .raw, b_law⟩
def fs : List FDef := [f_fraction, f_sum_of_shares, f_done_days, f_plan_lot, f_moved_plan, f_is_whole, f_is_pair, f_is_whole_pair, f_is_full, f_is_place, f_is_chain_places, f_chain_lot, f_things_ahead, f_even_number, f_even_sum, f_even_place, f_inverse, f_put_together, f_meeting_day, f_period_lot, f_common_period, f_keeps_gap, f_keeps_gaps, f_check_kinds, f_both_kinds, f_by_turns, f_two_kinds_lot, f_two_kinds_days, f_L_pool, f_L_draw, f_L_shuffled, f_L_same, f_L_day, f_L_plans, f_L_factor, f_L_met, f_L_periods, f_L_chains, f_L_lot, f_L_kinds, f_law]
def kt : List ((Str × List Str) × (Nat × List Nat)) := [(("chain_lot", ["day", "places", "gaps"]), (11, [2, 1, 0]))]
def gcl : List (Str × Bi) := [("gcd", .gcd), ("lcm", .lcm)]
def csl : List (Str × Int) := []
end T
end Nog

set_option Elab.async false
set_option linter.all false
set_option maxRecDepth 100000
set_option maxHeartbeats 4000000
/-! k99: small rules, the pool of draws (cells at 0, the pool at 1) -/
namespace Nog
def nxI (J : Env → Sto → Prop) : Sr → Prop
  | .nx σ S => J σ S
  | _ => False
section
variable {C : Call} {σ σ1 σ2 : Env} {S S1 S2 S3 S4 : Sto} {p q r : Pv} {d : D} {e a b c : E} {es : List E} {ss : List St} {Q : Sr → Prop}
/-- a test whose two ways meet again -/
theorem w_iffJ {t : Bool} {x y : List St} (J : Env → Sto → Prop) (h : ev C e σ S = .ok p S1) (ht : p.truth S1 = some t) (hx : t = true → Wp C x σ S1 (nxI J)) (hy : t = false → Wp C y σ S1 (nxI J)) (k : ∀ σ' S', J σ' S' → Wp C ss σ' S' Q) : Wp C (.iff e x y :: ss) σ S Q := by
  have go : ∀ z, Wp C z σ S1 (nxI J) → Wp C z σ S1 (sq C ss Q) := fun z hz => by
    unfold Wp at hz ⊢
    cases g : evSs C z σ S1 <;> rw [g] at hz <;> first | exact k _ _ hz | exact hz.elim
  exact w_iff h ht (fun z => go _ (hx z)) (fun z => go _ (hy z))
theorem r_anS {t u : Bool} (h : ev C a σ S = .ok (.val (.bl t)) S1) (h0 : t = false → S2 = S1) (h1 : t = true → ev C b σ S1 = .ok (.val (.bl u)) S2) : ev C (.an a b) σ S = .ok (.val (.bl (t && u))) S2 := by
  rw [ev, h, bind_ok]
  cases t
  · rw [h0 rfl]; rfl
  · simp only [tr_bl, Bool.true_and]; exact h1 rfl
theorem r_orS {t u : Bool} (h : ev C a σ S = .ok (.val (.bl t)) S1) (h0 : t = true → S2 = S1) (h1 : t = false → ev C b σ S1 = .ok (.val (.bl u)) S2) : ev C (.orr a b) σ S = .ok (.val (.bl (t || u))) S2 := by
  rw [ev, h, bind_ok]
  cases t
  · simp only [tr_bl, Bool.false_or]; exact h1 rfl
  · rw [h0 rfl]; rfl
theorem r_callk {k : Nat} {π : List Nat} {ds : List D} (h : evs C es σ S = .ok ds S1) (h1 : C k (permD π ds) S1 = .ok d S2) : ev C (.callk k π es) σ S = .ok (.val d) S2 := by rw [ev, h, bind_ok, h1, bind_ok]
/-- a comprehension whose test draws -/
theorem lcRun_ex3 {ι : Type} {hs : List (Nat × O)} {f : D → Sto → Rs (Option D)} {enc : ι → D} (I : Sto → Prop) (hh : ∀ S, I S → heldOk hs S = true) : ∀ {as : List ι} {S : Sto}, I S →
    (∀ a ∈ as, ∀ S, I S → ∃ (t : Bool) (S' : Sto), f (enc a) S = .ok (if t then some (enc a) else none) S' ∧ I S') → ∃ bs S', lcRun hs f (as.map enc) S = .ok (bs.map enc) S' ∧ I S' ∧ List.Sublist bs as
  | [], S, h, _ => ⟨[], S, by rw [List.map_nil, lcRun, if_pos (hh S h)], h, List.Sublist.slnil⟩
  | a :: as, S, h, hf => by
    obtain ⟨t, S1, h1, h2⟩ := hf a List.mem_cons_self S h
    obtain ⟨ys, S2, g1, g2, g3⟩ := lcRun_ex3 I hh (as := as) h2 fun b hb => hf b (List.mem_cons_of_mem _ hb)
    cases t with
    | true => exact ⟨a :: ys, S2, by rw [List.map_cons, lcRun, if_pos (hh S h), h1, bind_ok, g1, bind_ok]; rfl, g2, g3.cons_cons a⟩
    | false => exact ⟨ys, S2, by rw [List.map_cons, lcRun, if_pos (hh S h), h1, bind_ok, g1, bind_ok]; rfl, g2, g3.cons a⟩
theorem r_lcx3 {ι : Type} {tg : Tg} {own : List Nat} {ifs : List E} {elt : E} {as : List ι} {enc : ι → D} {xs : List D} (I : Sto → Prop) (hq : ev C e σ S = .ok p S1) (hi : p.items S1 = some xs) (hx : xs = as.map enc) (hl : p.lock S1 = none) (hI : I S1) (hh : ∀ S, I S → heldOk (p.held S1) S = true)
    (h : ∀ a ∈ as, ∀ S, I S → ∃ (t : Bool) (S' : Sto), lcStep C tg own ifs elt σ (enc a) S = .ok (if t then some (enc a) else none) S' ∧ I S') : ∃ bs S', ev C (.lc own elt tg e ifs) σ S = .ok (.fresh (bs.map enc)) S' ∧ I S' ∧ List.Sublist bs as := by
  obtain ⟨ys, S2, g1, g2, g3⟩ := lcRun_ex3 (hs := p.held S1) (f := lcStep C tg own ifs elt σ) (enc := enc) I hh hI h
  refine ⟨ys, S2, ?_, g2, g3⟩
  rw [ev, hq, bind_ok, hi]
  have e1 : p.lockS S1 = S1 := by unfold Pv.lockS; rw [hl]
  simp only [hl, e1, unl_none]
  subst hx
  exact congrArg (fun r : Rs (List D) => r.calm.bind fun ys S2 => Rs.ok (Pv.fresh ys) S2) g1
theorem lcStep_ifS {tg : Tg} {own : List Nat} {ifs : List E} {elt : E} {x v : D} {t : Bool} (hb : bindTg tg x (wipe σ own) = some σ1) (ht : evi C ifs σ1 S = .ok t S1) (hv : t = true → ev C elt σ1 S1 = .ok (.val v) S1) :
    lcStep C tg own ifs elt σ x S = .ok (if t then some v else none) S1 := by
  unfold lcStep
  simp only [hb, ht, bind_ok]
  cases t
  · rfl
  · simp only [if_true, hv rfl, bind_ok, toVal_val]
inductive F2 {α β : Type} (P : α → β → Prop) : List α → List β → Prop
  | nil : F2 P [] []
  | cons {a : α} {b : β} {as : List α} {bs : List β} (h : P a b) (t : F2 P as bs) : F2 P (a :: as) (b :: bs)
theorem lcRun_ex2 {ι β : Type} {hs : List (Nat × O)} {f : D → Sto → Rs (Option D)} {enc : ι → D} {g : β → D} (I : Sto → Prop) (P : ι → β → Prop) (hh : ∀ S, I S → heldOk hs S = true) : ∀ {as : List ι} {S : Sto}, I S →
    (∀ a ∈ as, ∀ S, I S → ∃ y S', f (enc a) S = .ok (some (g y)) S' ∧ I S' ∧ P a y) → ∃ ys S', lcRun hs f (as.map enc) S = .ok (ys.map g) S' ∧ I S' ∧ F2 P as ys
  | [], S, h, _ => ⟨[], S, by rw [List.map_nil, lcRun, if_pos (hh S h)]; rfl, h, .nil⟩
  | a :: as, S, h, hf => by
    obtain ⟨y, S1, h1, h2, h3⟩ := hf a List.mem_cons_self S h
    obtain ⟨ys, S2, g1, g2, g3⟩ := lcRun_ex2 I P hh (as := as) h2 fun b hb => hf b (List.mem_cons_of_mem _ hb)
    exact ⟨y :: ys, S2, by rw [List.map_cons, lcRun, if_pos (hh S h), h1, bind_ok, g1, bind_ok]; rfl, g2, .cons h3 g3⟩
theorem r_lcx2 {ι β : Type} {tg : Tg} {own : List Nat} {elt : E} {as : List ι} {enc : ι → D} {g : β → D} {xs : List D} (I : Sto → Prop) (P : ι → β → Prop) (hq : ev C e σ S = .ok p S1) (hi : p.items S1 = some xs) (hx : xs = as.map enc) (hl : p.lock S1 = none) (hI : I S1) (hh : ∀ S, I S → heldOk (p.held S1) S = true)
    (h : ∀ a ∈ as, ∀ S, I S → ∃ y S', lcStep C tg own [] elt σ (enc a) S = .ok (some (g y)) S' ∧ I S' ∧ P a y) : ∃ ys S', ev C (.lc own elt tg e []) σ S = .ok (.fresh (ys.map g)) S' ∧ I S' ∧ F2 P as ys := by
  obtain ⟨ys, S2, g1, g2, g3⟩ := lcRun_ex2 (hs := p.held S1) (f := lcStep C tg own [] elt σ) (enc := enc) (g := g) I P hh hI h
  refine ⟨ys, S2, ?_, g2, g3⟩
  rw [ev, hq, bind_ok, hi]
  have e1 : p.lockS S1 = S1 := by unfold Pv.lockS; rw [hl]
  simp only [hl, e1, unl_none]
  subst hx
  exact congrArg (fun r : Rs (List D) => r.calm.bind fun ys S2 => Rs.ok (Pv.fresh ys) S2) g1
theorem forall2_get {α β : Type} [Inhabited α] [Inhabited β] {P : α → β → Prop} : ∀ {as : List α} {bs : List β}, F2 P as bs → as.length = bs.length ∧ ∀ i, i < as.length → P (as.getD i default) (bs.getD i default)
  | _, _, .nil => ⟨rfl, fun i h => by cases h⟩
  | _, _, .cons h t => by
    obtain ⟨h1, h2⟩ := forall2_get t
    refine ⟨by rw [List.length_cons, List.length_cons, h1], fun i hi => ?_⟩
    cases i with
    | zero => exact h
    | succ i => exact h2 i (by simpa using hi)
end
theorem mulOk_r2 {i j : Int} (h : j.natAbs < 2 ^ 64) : mulOk i j = true := by
  unfold mulOk
  rw [decide_eq_true h, Bool.or_true, Bool.true_or]
theorem mulOk_l2 {i j : Int} (h : i.natAbs < 2 ^ 64) : mulOk i j = true := by
  unfold mulOk
  rw [decide_eq_true h, Bool.true_or, Bool.true_or]
theorem op_powI2 {S : Sto} {i j : Int} (h : (decide (0 ≤ j) && decide (j ≤ 1000) && decide (i.natAbs.log2 < 500)) = true) : opB .pow S (.val (.int i)) (.val (.int j)) = .ok (.val (.int (i ^ j.toNat))) S := by
  simp only [opB, opI, h, if_true]
theorem b_absI {S : Sto} (i : Int) : bi1 .abs S (.val (.int i)) = .ok (.val (.int (if i < 0 then -i else i))) S := rfl
theorem b_listR {S : Sto} {l : Nat} {xs : List D} (h : S[l]? = some (.lst xs)) : bi1 .list S (.val (.ref l)) = .ok (.fresh xs) S := by simp only [bi1, bg_ref h]
theorem log_small {k : Nat} (h : k ≤ 1000000) : ((k : Nat) : Int).natAbs.log2 < 9000 := by
  have h2 : ((k : Nat) : Int).natAbs < 2 ^ 20 := by omega
  by_cases h0 : ((k : Nat) : Int).natAbs = 0
  · rw [h0]; decide
  · have := (Nat.log2_lt h0).mpr h2; omega
theorem log_of {n k : Nat} (h : n < 2 ^ k) (hk : 0 < k) : n.log2 < k := by
  by_cases h0 : n = 0
  · rw [h0]; exact hk
  · exact (Nat.log2_lt h0).mpr h
theorem md_nat {k : Nat} (h : 1 ≤ k) (i : Int) : ∃ n : Nat, i % (k : Int) = n ∧ n < k := by
  have h1 := Int.emod_nonneg i (show (k : Int) ≠ 0 by omega)
  have h2 := Int.emod_lt_of_pos i (show (0 : Int) < k by omega)
  exact ⟨(i % (k : Int)).toNat, by omega, by omega⟩
/-- the pool stands at 0 and 1, T behind -/
def PlS (T S : Sto) : Prop := ∃ (zs : List Int) (a : Nat) (b c : Int), zs.length ≤ 63 ∧ c.natAbs < 2 ^ 64 ∧ S = .lst (zs.map .int) :: .lst [.ref 0, nD a, .int b, .int c] :: T
theorem PlS.get {T S : Sto} (h : PlS T S) (i : Nat) : S[i + 2]? = T[i]? := by
  obtain ⟨zs, a, b, c, _, _, rfl⟩ := h; rfl
theorem PlS.app {T S : Sto} (h : PlS T S) (X : Sto) : PlS (T ++ X) (S ++ X) := by
  obtain ⟨zs, a, b, c, h1, h2, rfl⟩ := h; exact ⟨zs, a, b, c, h1, h2, rfl⟩
theorem PlS.set {T S : Sto} (h : PlS T S) (i : Nat) (o : O) : PlS (T.set i o) (S.set (i + 2) o) := by
  obtain ⟨zs, a, b, c, h1, h2, rfl⟩ := h; exact ⟨zs, a, b, c, h1, h2, rfl⟩
theorem PlS.len {T S : Sto} (h : PlS T S) : S.length = T.length + 2 := by
  obtain ⟨zs, a, b, c, _, _, rfl⟩ := h; rfl
namespace T
abbrev Pg : List Fn := fs.map FDef.fn
theorem draw_ok (m : Nat) {k : Nat} (hk1 : 1 ≤ k) (hk : k ≤ 1000000) {T S : Sto} (h : PlS T S) : ∃ n S', callN Pg (m + 1) i_L_draw [.ref 1, nD k] S = .ok (nD n) S' ∧ PlS T S' ∧ n < k := by
  obtain ⟨zs, a, b, c, hz, hc, rfl⟩ := h
  refine callR (P := Pg) (m := m) (k := i_L_draw) (as := [.ref 1, nD k]) (f := f_L_draw.fn) rfl rfl rfl (Q := fun r => ∃ n S', r = .ok (nD n) S' ∧ PlS T S' ∧ n < k) ?_
  show Wp _ b_L_draw [some (.ref 1), some (nD k), none, none, none] (.lst (zs.map .int) :: .lst [.ref 0, nD a, .int b, .int c] :: T) _
  have g0 : ∀ x : List D, (O.lst (zs.map D.int) :: .lst x :: T)[0]? = some (.lst (zs.map .int)) := fun x => rfl
  have g1 : ∀ x : List D, (O.lst (zs.map D.int) :: .lst x :: T)[1]? = some (.lst x) := fun x => rfl
  have x0 : ∀ a b c : D, ixP (.lst (zs.map .int) :: .lst [.ref 0, a, b, c] :: T) (.val (.ref 1)) (.val (.int 0)) = some (.ref 0) := fun a b c => ixR (j := 0) (g1 _) rfl rfl
  have x1 : ∀ a b c : D, ixP (.lst (zs.map .int) :: .lst [.ref 0, a, b, c] :: T) (.val (.ref 1)) (.val (.int 1)) = some a := fun a b c => ixR (j := 1) (g1 _) rfl rfl
  have x2 : ∀ a b c : D, ixP (.lst (zs.map .int) :: .lst [.ref 0, a, b, c] :: T) (.val (.ref 1)) (.val (.int 2)) = some b := fun a b c => ixR (j := 2) (g1 _) rfl rfl
  have x3 : ∀ a b c : D, ixP (.lst (zs.map .int) :: .lst [.ref 0, a, b, c] :: T) (.val (.ref 1)) (.val (.int 3)) = some c := fun a b c => ixR (j := 3) (g1 _) rfl rfl
  have kp : (0 : Int) < k := by omega
  refine w_iff (t := decide ((0 : Int) < b)) (r_cmp (r_ix (ev_var rfl) ev_lit (x2 ..)) ev_lit cm_gt) rfl (fun hp => ?_) (fun hp => w_end ?_)
  · obtain ⟨n, hn, hlt⟩ := md_nat hk1 b
    refine w_asgV (r_bin (r_b1 (r_ix (ev_var rfl) ev_lit (x2 ..)) (b_intI _)) (ev_var rfl) (op_modI kp)) rfl ?_
    refine w_putV (v := .int (b / (k : Int))) (r_bin (r_ix (ev_var rfl) ev_lit (x2 ..)) (ev_var rfl) (op_fdivI kp (log_small hk))) (ev_var rfl) ev_lit (put_lst (l := 1) (i := 2) (j := 2) (g1 _) rfl) ?_
    refine w_retV (ev_var rfl) ?_
    rw [hn]
    exact ⟨n, _, rfl, ⟨zs, a, _, c, hz, hc, rfl⟩, hlt⟩
  refine w_asgV (r_ix (ev_var rfl) ev_lit (x1 ..)) rfl ?_
  have pw : ∀ {σ : Env} {S : Sto}, ev (callN Pg m) (.bin .pow (.bin .pow (.lit (.int 10)) (.lit (.int 60))) (.lit (.int 5))) σ S = .ok (.val (.int ((10 ^ 60) ^ 5))) S := fun {σ S} => r_bin (r_bin ev_lit ev_lit (op_powI2 (j := 60) (by decide +kernel))) ev_lit (op_powI2 (j := 5) (by decide +kernel))
  have pw18 : ∀ {σ : Env} {S : Sto}, ev (callN Pg m) (.bin .pow (.lit (.int 10)) (.lit (.int 18))) σ S = .ok (.val (.int (10 ^ 18))) S := fun {σ S} => r_bin ev_lit ev_lit (op_powI2 (j := 18) (by decide +kernel))
  have pp : (0 : Int) < (10 ^ 60) ^ 5 := by decide
  generalize ((10 ^ 60) ^ 5 : Int) = M at pw pp
  refine w_iffJ (t := decide (a < zs.length)) (fun σ S => ∃ y : Int, σ = [some (.ref 1), some (nD k), some (.int y), none, none] ∧ S = .lst (zs.map .int) :: .lst [.ref 0, nD a, .int b, .int c] :: T)
    (r_cmp (r_ix (ev_var rfl) ev_lit (x1 ..)) (r_b1 (r_ix (ev_var rfl) ev_lit (x0 ..)) (b_lenR (g0 _))) (by rw [List.length_map]; exact cm_ltN)) rfl (fun hl => ?_) (fun _ => w_nil ⟨_, rfl, rfl⟩) fun σ S ⟨y, hσ, hS⟩ => ?_
  · have hl2 : a < zs.length := of_decide_eq_true hl
    refine w_asgV (r_bin (r_b1 (r_ix (r_ix (ev_var rfl) ev_lit (x0 ..)) (r_ix (ev_var rfl) ev_lit (x1 ..)) (d := .int zs[a]) (ixRn (g0 _) (by rw [List.getElem?_map, List.getElem?_eq_getElem hl2]; rfl))) (b_intI _)) pw (op_modI pp)) rfl (w_nil ⟨_, rfl, rfl⟩)
  subst hσ hS
  refine w_augp (S4 := .lst (zs.map .int) :: .lst [.ref 0, nD (a + 1), .int b, .int c] :: T) (n := ((a + 1 : Nat) : Int)) (ev_var rfl) ev_lit (x1 ..) ev_lit rfl (put_lst (l := 1) (i := 1) (j := 1) (g1 _) rfl) ?_
  refine w_iff (t := decide ((10 ^ 18 : Int) ≤ y)) (r_cmp (ev_var rfl) pw18 cm_ge) rfl (fun _ => ?_) (fun _ => w_end ?_)
  · obtain ⟨n, hn, hlt⟩ := md_nat hk1 y
    refine w_putV (v := .int (y / (k : Int))) (r_bin (ev_var rfl) (ev_var rfl) (op_fdivI kp (log_small hk))) (ev_var rfl) ev_lit (put_lst (l := 1) (i := 2) (j := 2) (g1 _) rfl) ?_
    refine w_retV (r_bin (r_b1 (ev_var rfl) (b_intI _)) (ev_var rfl) (op_modI kp)) ?_
    rw [hn]
    exact ⟨n, _, rfl, ⟨zs, a + 1, _, c, hz, hc, rfl⟩, hlt⟩
  · refine w_putV (r_bin (r_b1 (r_bin (r_bin (r_bin (r_ix (ev_var rfl) ev_lit (x3 ..)) ev_lit (op_mulI (mulOk_r2 (by decide)))) (r_bin (ev_var rfl) ev_lit (op_mulI (mulOk_r2 (by decide)))) op_addI) ev_lit op_addI) (b_intI _)) ev_lit (op_modI (by decide))) (ev_var rfl) ev_lit (put_lst (l := 1) (i := 3) (j := 3) (g1 _) rfl) ?_
    have l3 := Int.emod_nonneg (c * 1664525263 + y * 129001 + 14503) (show (2305843009213693951 : Int) ≠ 0 by decide)
    have l4 := Int.emod_lt_of_pos (c * 1664525263 + y * 129001 + 14503) (show (0 : Int) < 2305843009213693951 by decide)
    generalize (c * 1664525263 + y * 129001 + 14503) % 2305843009213693951 = c' at l3 l4
    have hc' : c'.natAbs < 2 ^ 64 := by omega
    show Wp _ _ _ (.lst (zs.map .int) :: .lst [.ref 0, nD (a + 1), .int b, .int c'] :: T) _
    refine w_asgV (r_bin (r_b1 (r_bin (r_ix (ev_var rfl) ev_lit (x3 ..)) (r_ix (ev_var rfl) ev_lit (x3 ..)) (op_mulI (mulOk_r2 hc'))) (b_intI _)) ev_lit (op_modI (by decide))) rfl ?_
    generalize (c' * c') % 2147482073 = z
    obtain ⟨n, hn, hlt⟩ := md_nat hk1 (z / 32)
    refine w_retV (r_bin (r_bin (ev_var rfl) ev_lit (op_fdivI (by decide) (by decide))) (ev_var rfl) (op_modI kp)) ?_
    rw [hn]
    exact ⟨n, _, rfl, ⟨zs, a + 1, b, c', hz, hc', rfl⟩, hlt⟩
theorem pool_ok (m : Nat) (ns : List Int) (hl : ns.length ≤ 63) : ∃ S, callN Pg (m + 1) i_L_pool [.rol (ns.map .int)] [] = .ok (.ref 1) S ∧ PlS [] S := by
  refine callR (P := Pg) (m := m) (k := i_L_pool) (as := [.rol (ns.map .int)]) (f := f_L_pool.fn) rfl rfl rfl (Q := fun r => ∃ S, r = .ok (.ref 1) S ∧ PlS [] S) ?_
  show Wp _ b_L_pool [some (.rol (ns.map .int)), none] [] _
  have hsl : ∀ S, ev (callN Pg m) (.sl (.var 0) (.lit .non) (.lit (.int 63))) [some (.rol (ns.map .int)), none] S = .ok (.fresh (ns.map .int)) S := fun S => by
    rw [ev, ev_var (d := .rol (ns.map .int)) rfl, bind_ok, ev_lit, bind_ok]
    simp only [partOf, ev_lit, bind_ok, slP, Pv.lstItems]
    have e : slicL (ns.map D.int) none (some 63) = ns.map D.int := by
      unfold slicL
      simp only [cutAt, List.drop_zero, List.length_map, Nat.sub_zero]
      have : (if (63 : Int) < 0 then ((63 : Int) + (ns.length : Int)).toNat else min (63 : Int).toNat ns.length) = ns.length := by
        rw [if_neg (by decide)]
        show min 63 ns.length = _
        omega
      rw [this, List.take_of_length_le (by rw [List.length_map]; exact Nat.le_refl _)]
    rw [e]
  have hc := r_lcm (C := callN Pg m) (σ := [some (.rol (ns.map .int)), none]) (S := []) (own := [1]) (tg := .nm 1) (elt := .b1 .abs (.b1 .int (.var 1))) (as := ns) (enc := .int) (fun i : Int => .int (if i < 0 then -i else i)) (hsl _) (it_fresh _) rfl rfl rfl fun i hi => lcStep_all rfl (r_b1 (r_b1 (ev_var rfl) (b_intI _)) (b_absI _))
  refine w_ret (r_lst (r_cons hc rfl (r_consV ev_lit (r_consV ev_lit (r_consV ev_lit r_nil))))) rfl ?_
  refine ⟨_, rfl, ns.map (fun i : Int => if i < 0 then -i else i), 0, 0, 23159, by rw [List.length_map]; exact hl, by decide, ?_⟩
  rw [List.map_map]; rfl
theorem popAt_perm : ∀ {xs : List D} {k : Nat} {x : D}, xs[k]? = some x → (x :: popAt xs k).Perm xs
  | [], k, x, h => by simp at h
  | y :: ys, 0, x, h => by simp at h; subst h; simp [popAt]
  | y :: ys, k + 1, x, h => by
    have := popAt_perm (xs := ys) (k := k) (x := x) (by simpa using h)
    have e : popAt (y :: ys) (k + 1) = y :: popAt ys k := by simp [popAt]
    rw [e]
    exact (List.Perm.swap y x _).trans (this.cons y)
theorem ms_popN {S : Sto} {l i : Nat} {xs : List D} {x : D} (h : S[l]? = some (.lst xs)) (hx : xs[i]? = some x) : ms .pop S (.val (.ref l)) [nD i] = .ok (.val x) (S.set l (.lst (popAt xs i))) := by
  have hi := ixN_nat (List.getElem?_eq_some_iff.mp hx).1
  simp only [ms, h, hi, hx]
theorem shuffled_ok (m : Nat) {T S : Sto} (h : PlS T S) {r : Nat} {xs : List D} (hr : S[r]? = some (.lst xs)) (hl : xs.length ≤ 100000) : ∃ ys T' S' l, callN Pg (m + 2) i_L_shuffled [.ref 1, .ref r] S = .ok (.ref l) S' ∧ PlS T' S' ∧ S'[l]? = some (.lst ys) ∧ ys.Perm xs := by
  refine callR (P := Pg) (m := m + 1) (k := i_L_shuffled) (as := [.ref 1, .ref r]) (f := f_L_shuffled.fn) rfl rfl rfl (Q := fun z => ∃ ys T' S' l, z = .ok (.ref l) S' ∧ PlS T' S' ∧ S'[l]? = some (.lst ys) ∧ ys.Perm xs) ?_
  show Wp _ b_L_shuffled [some (.ref 1), some (.ref r), none, none, none] S _
  refine w_asg (r_b1 (ev_var rfl) (b_listR hr)) rfl rfl ?_
  refine w_asg (r_lst r_nil) rfl rfl ?_
  have hL := h.len
  have h2 := (h.app [.lst xs]).app [.lst []]
  have hr2 : (S ++ [.lst xs] ++ [.lst []])[r]? = some (.lst xs) := look_app (look_app hr _) _
  rw [show (S ++ [O.lst xs]).length = T.length + 1 + 2 by rw [List.length_append, hL]; rfl, hL]
  have p0 : (T ++ [O.lst xs] ++ [O.lst []])[T.length]? = some (.lst xs) := look_app (look_new T _) _
  have p1 : (T ++ [O.lst xs] ++ [O.lst []])[T.length + 1]? = some (.lst []) := by
    have := look_new (T ++ [O.lst xs]) (.lst [])
    rwa [show (T ++ [O.lst xs]).length = T.length + 1 by simp] at this
  generalize T ++ [O.lst xs] ++ [O.lst []] = T2 at h2 p0 p1
  generalize S ++ [O.lst xs] ++ [O.lst []] = S2 at h2 hr2
  refine w_fr (as := List.range xs.length) (enc := nD) (fun pre σ S => ∃ (T' : Sto) (ls ts : List D) (z : Option D), PlS T' S ∧ T'[T.length]? = some (.lst ls) ∧ T'[T.length + 1]? = some (.lst ts) ∧ (ts ++ ls).Perm xs ∧ ts.length = pre.length ∧ σ = [some (.ref 1), some (.ref r), some (.ref (T.length + 2)), some (.ref (T.length + 1 + 2)), z])
    (r_rg1 (r_b1 (ev_var rfl) (b_lenR hr2)) (by omega) (by omega)) (it_rng ..) (rngL0 _) rfl ⟨T2, xs, [], none, h2, p0, p1, List.Perm.refl _, rfl, rfl⟩ (fun _ _ _ _ => rfl) (fun pre i post σ S e ⟨T', ls, ts, z, hP, g0, g1, hp, hn, hσ⟩ => ?_) (fun σ S ⟨T', ls, ts, z, hP, g0, g1, hp, hn, hσ⟩ => ?_)
  · subst hσ
    refine ⟨_, rfl, ?_⟩
    have hlen := hp.length_eq
    rw [List.length_append] at hlen
    have hpre : pre.length < xs.length := by have := congrArg List.length e; simp at this; omega
    have q0 : S[T.length + 2]? = some (.lst ls) := (hP.get _).trans g0
    have q1 : S[T.length + 1 + 2]? = some (.lst ts) := (hP.get _).trans g1
    obtain ⟨n, S', c1, h1, ln⟩ := draw_ok m (k := ls.length) (by omega) (by omega) hP
    have q0' : S'[T.length + 2]? = some (.lst ls) := (h1.get _).trans g0
    obtain ⟨x, hx⟩ : ∃ x, ls[n]? = some x := ⟨ls[n], List.getElem?_eq_getElem ln⟩
    have q1' : (S'.set (T.length + 2) (.lst (popAt ls n)))[T.length + 1 + 2]? = some (.lst ts) := look_set ((h1.get _).trans g1) (by omega)
    refine w_ex (r_ms (ev_var rfl) (on_lst rfl q1) (r_consV (r_ms (ev_var rfl) (on_lst rfl q0) (r_consV (r_call (r_consV (ev_var rfl) (r_consV (r_b1 (ev_var rfl) (b_lenR q0)) r_nil)) c1) r_nil) (ms_popN q0' hx)) r_nil) (ms_append q1' (by unfold lim; omega))) (w_nil ⟨_, _, _, _, (h1.set T.length (.lst (popAt ls n))).set (T.length + 1) (.lst (ts ++ [x])), look_set (look_put g0) (by omega), look_put (look_set g1 (by omega)), ?_, by simp [hn], rfl⟩)
    rw [List.append_assoc]
    exact (List.Perm.append_left ts (popAt_perm hx)).trans hp
  · subst hσ
    have q1 : S[T.length + 1 + 2]? = some (.lst ts) := (hP.get _).trans g1
    refine w_retV (ev_var rfl) ⟨ts, T', S, _, rfl, hP, q1, ?_⟩
    have hlen := hp.length_eq
    rw [List.length_append, hn, List.length_range] at hlen
    have : ls = [] := List.length_eq_zero_iff.mp (by omega)
    rw [this, List.append_nil] at hp
    exact hp
end T
end Nog

set_option Elab.async false
set_option linter.all false
set_option maxRecDepth 100000
set_option maxHeartbeats 4000000
/-! k99: the same value, a day -/
namespace Nog
theorem tr_ref {S : Sto} {l : Nat} {xs : List D} (h : S[l]? = some (.lst xs)) : (Pv.val (.ref l)).truth S = some (!xs.isEmpty) := by simp only [Pv.truth, h]
namespace T
theorem day_ok (m : Nat) {T S : Sto} (h : PlS T S) : ∃ n S', callN Pg (m + 2) i_L_day [.ref 1] S = .ok (nD n) S' ∧ PlS T S' ∧ n ≤ 10 ^ 18 := by
  refine callR (P := Pg) (m := m + 1) (k := i_L_day) (as := [.ref 1]) (f := f_L_day.fn) rfl rfl rfl (Q := fun z => ∃ n S', z = .ok (nD n) S' ∧ PlS T S' ∧ n ≤ 10 ^ 18) ?_
  show Wp _ b_L_day [some (.ref 1), none] S _
  obtain ⟨kd, S1, c1, h1, l1⟩ := draw_ok m (k := 5) (by omega) (by omega) h
  refine w_asgV (r_call (r_consV (ev_var rfl) (r_consV ev_lit r_nil)) c1) rfl ?_
  refine w_iff (t := decide (kd = 0)) (r_cmp (ev_var rfl) ev_lit (cm_eqN (b := 0))) rfl (fun hp => ?_) (fun hp => w_end ?_)
  · obtain ⟨n, S2, c2, h2, l2⟩ := draw_ok m (k := 60) (by omega) (by omega) h1
    exact w_retV (r_call (r_consV (ev_var rfl) (r_consV ev_lit r_nil)) c2) ⟨n, S2, rfl, h2, by omega⟩
  have pw18 : ∀ {σ : Env} {S : Sto}, ev (callN Pg (m + 1)) (.bin .pow (.lit (.int 10)) (.lit (.int 18))) σ S = .ok (.val (nD (10 ^ 18))) S := fun {σ S} => r_bin ev_lit ev_lit (op_powI2 (j := 18) (by decide +kernel))
  have pw6 : ∀ {σ : Env} {S : Sto}, ev (callN Pg (m + 1)) (.bin .pow (.lit (.int 10)) (.lit (.int 6))) σ S = .ok (.val (nD (10 ^ 6))) S := fun {σ S} => r_bin ev_lit ev_lit (op_powI2 (j := 6) (by decide +kernel))
  have pw12 : ∀ {σ : Env} {S : Sto}, ev (callN Pg (m + 1)) (.bin .pow (.lit (.int 10)) (.lit (.int 12))) σ S = .ok (.val (nD (10 ^ 12))) S := fun {σ S} => r_bin ev_lit ev_lit (op_powI2 (j := 12) (by decide +kernel))
  refine w_iff (t := decide (kd = 1)) (r_cmp (ev_var rfl) ev_lit (cm_eqN (b := 1))) rfl (fun hp => ?_) (fun hp2 => w_end ?_)
  · obtain ⟨n, S2, c2, h2, l2⟩ := draw_ok m (k := 50) (by omega) (by omega) h1
    exact w_retV (r_bin pw18 (r_call (r_consV (ev_var rfl) (r_consV ev_lit r_nil)) c2) (op_subN (by omega))) ⟨_, S2, rfl, h2, by omega⟩
  · obtain ⟨n, S2, c2, h2, l2⟩ := draw_ok m (k := 10 ^ 6) (by omega) (by omega) h1
    obtain ⟨n3, S3, c3, h3, l3⟩ := draw_ok m (k := 10 ^ 6) (by omega) (by omega) h2
    have k0 : kd ≠ 0 := of_decide_eq_false hp
    have k1 : kd ≠ 1 := of_decide_eq_false hp2
    have hx : ∃ u : Nat, u ≤ 10 ^ 12 ∧ ixP S2 (.val (.tup [.int 1, nD (10 ^ 6), nD (10 ^ 12)])) (.val (nD (kd - 2))) = some (nD u) := by
      have : kd = 2 ∨ kd = 3 ∨ kd = 4 := by omega
      rcases this with rfl | rfl | rfl
      · exact ⟨1, by omega, rfl⟩
      · exact ⟨10 ^ 6, by omega, rfl⟩
      · exact ⟨10 ^ 12, by omega, rfl⟩
    obtain ⟨u, hu, hx⟩ := hx
    refine w_retV (r_bin (r_bin (r_call (r_consV (ev_var rfl) (r_consV pw6 r_nil)) c2) (r_ix (r_tup (r_consV ev_lit (r_consV pw6 (r_consV pw12 r_nil)))) (r_bin (ev_var rfl) ev_lit (op_subN (j := 2) (by omega))) hx) (op_mulI (mulOk_r2 (by omega)))) (r_call (r_consV (ev_var rfl) (r_consV pw6 r_nil)) c3) op_addI) ⟨n * u + n3, S3, ?_, h3, ?_⟩
    · rw [← Int.natCast_mul, ← Int.natCast_add]; rfl
    · have := Nat.mul_le_mul (show n ≤ 10 ^ 6 - 1 by omega) hu
      omega
theorem same_ok (m : Nat) {d : D} (hd : d.good 60) (hz : d.sz ≤ 8000000) (S : Sto) : callN Pg (m + 1) i_L_same [d, d] S = .ok (.bl true) S := by
  refine callO (f := f_L_same.fn) rfl rfl rfl (goodL_cons hd (goodL_cons hd goodL_nil)).1 rfl ?_
  show Wp _ b_L_same [some d, some d, none, none, none, none] [] _
  refine w_asg (r_lst (r_consV (r_tup (r_consV (ev_var rfl) (r_consV (ev_var rfl) r_nil))) r_nil)) rfl rfl ?_
  refine w_whl (fun j σ S => ∃ (ds : List D) (x y z : Option D), j = D.szL ds ∧ j ≤ 8000000 ∧ (∀ d ∈ ds, d.good 60) ∧ σ = [some d, some d, some (.ref 0), x, y, z] ∧ S[0]? = some (.lst (ds.map fun d => .tup [d, d]))) retD_no
    (fun j σ S ⟨ds, x, y, z, hj, hj2, hg, hσ, hS⟩ => ?_) ⟨[d], none, none, none, rfl, by simp [D.szL]; omega, by simpa using hd, rfl, rfl⟩
  subst hσ
  refine ⟨!ds.isEmpty, _, _, ev_var rfl, by rw [tr_ref hS]; cases ds <;> rfl, fun ht => ?_, fun ht => ?_⟩
  · exact w_retV ev_lit retD
  · have hne : ds ≠ [] := fun e => by subst e; cases ht
    obtain ⟨es, e, rfl⟩ : ∃ es e, ds = es ++ [e] := ⟨ds.dropLast, ds.getLast hne, (List.dropLast_concat_getLast hne).symm⟩
    have ge : e.good 60 := hg e (by simp)
    have gs : ∀ d ∈ es, d.good 60 := fun d hd => hg d (by simp [hd])
    have gz : D.szL (es ++ [e]) = D.szL es + e.sz := by rw [szL_app]; simp [D.szL]
    have ep := sz_pos e
    refine w_asgV (d := .tup [e, e]) (S1 := S.set 0 (.lst (es.map fun d => .tup [d, d]))) (r_ms (ev_var rfl) (on_lst rfl hS) r_nil (ms_pop (by rw [hS, List.map_append]; rfl))) rfl ?_
    have hS2 := look_put (o' := .lst (es.map fun d => .tup [d, d])) hS
    generalize S.set 0 (.lst (es.map fun d => .tup [d, d])) = S2 at hS2
    have dn : Wp (callN Pg m) [] [some d, some d, some (.ref 0), some e, some e, z] S2 (frSq (callN Pg m) [.ret (.lit (.bl true))] (RetD (.bl true)) fun σ' S' => ∃ j', j' < j ∧ ∃ (ds : List D) (x y z : Option D), j' = D.szL ds ∧ j' ≤ 8000000 ∧ (∀ d ∈ ds, d.good 60) ∧ σ' = [some d, some d, some (.ref 0), x, y, z] ∧ S'[0]? = some (.lst (ds.map fun d => .tup [d, d]))) := w_nil ⟨_, by rw [hj, gz]; omega, es, _, _, _, rfl, by omega, gs, rfl, hS2⟩
    have qn : cmP .ne S2 (.val e) (.val e) = some false := cm_ne_self ge (eqb_self ge.1)
    cases e with
    | tup xs =>
      refine w_iff (t := false) (r_isn (ev_var rfl)) rfl (fun h => by cases h) (fun _ => ?_)
      refine w_iff (t := false) (r_isi (ev_var rfl) rfl) rfl (fun h => by cases h) (fun _ => ?_)
      refine w_iff (t := false) (r_isi (ev_var rfl) rfl) rfl (fun h => by cases h) (fun _ => ?_)
      refine w_iff (t := false) (r_isi (ev_var rfl) rfl) rfl (fun h => by cases h) (fun _ => ?_)
      refine w_iff (t := true) (r_isi (ev_var rfl) rfl) rfl (fun _ => ?_) (fun h => by cases h)
      refine w_iff (t := false) (r_or (t := false) (u := false) (r_not (t := true) (r_isi (ev_var rfl) rfl)) fun _ => r_cmp (r_b1 (ev_var rfl) (b_lenT ..)) (r_b1 (ev_var rfl) (b_lenT ..)) (by rw [cm_ne]; simp)) rfl (fun h => by cases h) (fun _ => w_end ?_)
      have zx : (D.tup xs).sz = D.szL xs + 1 := by rw [D.sz]
      have xl := szL_len xs
      have el := szL_len es
      have hlim : lim = 16777216 := rfl
      have gx : ∀ y ∈ xs, y.good 60 := fun y hy => ⟨plainL_iff.mp (by have := ge.1; rwa [D.plain] at this) y hy, by have := ge.2; rw [D.depth] at this; exact Nat.le_trans (depthL_le.mp (Nat.le_refl _) y hy) (by omega)⟩
      have emap : (List.range xs.length).map (fun i => D.tup [xs.getD i default, xs.getD i default]) = xs.map fun d => .tup [d, d] := by
        refine List.ext_getElem (by simp) fun i h1 h2 => ?_
        simp at h1
        simp [h1]
      have gi : ∀ i, i < xs.length → ixP S2 (.val (.tup xs)) (.val (nD i)) = some (xs.getD i default) := fun i hi => by
        have := ix_map (S := S2) (f := fun d : D => d) (l := xs) hi
        rw [List.map_id'] at this
        exact this
      have hc := r_lc (C := callN Pg m) (σ := [some d, some d, some (.ref 0), some (.tup xs), some (.tup xs), z]) (S := S2) (own := [5]) (elt := (.tup [(.ix (.var 3) (.var 5)), (.ix (.var 4) (.var 5))])) (tg := .nm 5) (ifs := []) (as := List.range xs.length) (enc := nD) (fun _ => true) (fun i => .tup [xs.getD i default, xs.getD i default])
        (r_rg1 (r_b1 (ev_var (i := 4) rfl) (b_lenT ..)) (by omega) (by omega)) (it_rng ..) (rngL0 _) rfl rfl fun i hi => lcStep_all rfl (r_tup (r_consV (r_ix (ev_var rfl) (ev_var rfl) (gi i (List.mem_range.mp hi))) (r_consV (r_ix (ev_var rfl) (ev_var rfl) (gi i (List.mem_range.mp hi))) r_nil)))
      rw [List.filter_eq_self.mpr (fun _ _ => rfl), emap] at hc
      refine w_ex (r_ext (ev_var rfl) hS2 hc (by rw [List.length_append, List.length_map, List.length_map]; omega)) (w_end (w_end (w_end (w_end (w_end (w_nil ⟨D.szL (es ++ xs), by rw [hj, gz, szL_app]; omega, es ++ xs, _, _, _, rfl, by rw [szL_app]; omega, fun y hy => ?_, rfl, ?_⟩))))))
      · rcases List.mem_append.mp hy with h | h
        · exact gs y h
        · exact gx y h
      · rw [look_put hS2, List.map_append]
    | non =>
      refine w_iff (t := true) (r_isn (ev_var rfl)) rfl (fun _ => ?_) (fun h => by cases h)
      exact w_iff (t := false) (r_nisn (ev_var rfl)) rfl (fun h => by cases h) (fun _ => w_end (w_end dn))
    | bl u =>
      refine w_iff (t := false) (r_isn (ev_var rfl)) rfl (fun h => by cases h) (fun _ => ?_)
      refine w_iff (t := true) (r_isi (ev_var rfl) rfl) rfl (fun _ => ?_) (fun h => by cases h)
      exact w_iff (t := false) (r_or (t := false) (u := false) (r_not (t := true) (r_isi (ev_var rfl) rfl)) fun _ => r_cmp (ev_var rfl) (ev_var rfl) qn) rfl (fun h => by cases h) (fun _ => w_end (w_end (w_end dn)))
    | int u =>
      refine w_iff (t := false) (r_isn (ev_var rfl)) rfl (fun h => by cases h) (fun _ => ?_)
      refine w_iff (t := false) (r_isi (ev_var rfl) rfl) rfl (fun h => by cases h) (fun _ => ?_)
      refine w_iff (t := true) (r_isi (ev_var rfl) rfl) rfl (fun _ => ?_) (fun h => by cases h)
      exact w_iff (t := false) (r_or (t := false) (u := false) (r_isi (ev_var rfl) rfl) fun _ => r_or (t := false) (u := false) (r_not (t := true) (r_isi (ev_var rfl) rfl)) fun _ => r_cmp (ev_var rfl) (ev_var rfl) qn) rfl (fun h => by cases h) (fun _ => w_end (w_end (w_end (w_end dn))))
    | str u =>
      refine w_iff (t := false) (r_isn (ev_var rfl)) rfl (fun h => by cases h) (fun _ => ?_)
      refine w_iff (t := false) (r_isi (ev_var rfl) rfl) rfl (fun h => by cases h) (fun _ => ?_)
      refine w_iff (t := false) (r_isi (ev_var rfl) rfl) rfl (fun h => by cases h) (fun _ => ?_)
      refine w_iff (t := true) (r_isi (ev_var rfl) rfl) rfl (fun _ => ?_) (fun h => by cases h)
      exact w_iff (t := false) (r_or (t := false) (u := false) (r_not (t := true) (r_isi (ev_var rfl) rfl)) fun _ => r_cmp (ev_var rfl) (ev_var rfl) qn) rfl (fun h => by cases h) (fun _ => w_end (w_end (w_end (w_end (w_end dn)))))
    | ref _ => have := ge.1; simp [D.plain] at this
    | fn _ => have := ge.1; simp [D.plain] at this
    | rol _ => have := ge.1; simp [D.plain] at this
end T
end Nog

set_option Elab.async false
set_option linter.all false
set_option maxRecDepth 100000
set_option maxHeartbeats 4000000
/-! k99: greatest common factors, inverses, meetings -/
namespace Nog
theorem op_fdivN {S : Sto} {a b : Nat} (h : 0 < b) (h2 : b ≤ 1000000) : opB .fdiv S (.val (nD a)) (.val (nD b)) = .ok (.val (nD (a / b))) S := by
  rw [op_fdivI (by omega) (log_small h2)]; rfl
theorem op_mulN {S : Sto} {a b : Nat} (h : a < 2 ^ 64 ∨ b < 2 ^ 64) : opB .mul S (.val (nD a)) (.val (nD b)) = .ok (.val (nD (a * b))) S := by
  rw [op_mulI (h.elim (fun h => mulOk_l2 (by omega)) fun h => mulOk_r2 (by omega)), ← Int.natCast_mul]
theorem b_gcdN {S : Sto} (a b : Nat) : bi2 .gcd S (nD a) (nD b) = .ok (.val (nD (Nat.gcd a b))) S := rfl
theorem b_lcmN {S : Sto} {a b : Nat} (h : a < 2 ^ 1000) (h2 : b < 2 ^ 1000) : bi2 .lcm S (nD a) (nD b) = .ok (.val (nD (Nat.lcm a b))) S := by
  have e1 : decide ((a : Int).natAbs.log2 < 13000) = true := decide_eq_true (Nat.lt_trans (log_of (k := 1000) (by rw [Int.natAbs_natCast]; exact h) (by decide)) (by decide))
  have e2 : decide ((b : Int).natAbs.log2 < 13000) = true := decide_eq_true (Nat.lt_trans (log_of (k := 1000) (by rw [Int.natAbs_natCast]; exact h2) (by decide)) (by decide))
  show (if decide ((a : Int).natAbs.log2 < 13000) && decide ((b : Int).natAbs.log2 < 13000) then (Rs.ok (Pv.val (.int (Nat.lcm (a : Int).natAbs (b : Int).natAbs))) S) else .no) = _
  rw [e1, e2]; rfl
section
variable {P : List Fn} {m k : Nat} {f : Fn} {as : List D} {S : Sto}
theorem callOE {G : D → Prop} (hf : P[k]? = some f) (hm : f.mode = .own) (hn : as.length = f.np) (hp : D.plainL as = true) (hG : ∀ d, G d → d.plain = true) (hr : Wp (callN P m) f.body (envOf f as) [] fun r => ∃ d S1, r.fin = .ok d S1 ∧ G d) : ∃ d, callN P (m + 1) k as S = .ok d S ∧ G d := by
  obtain ⟨d, S1, h1, h2⟩ := wp_of hr
  exact ⟨d, call_own hf hm hn hp (hG d h2) ⟨S1, h1⟩, h2⟩
end
/-! ### the plain part -/
open Classical in
/-- how many steps of c, to stand at want, modulo s -/
noncomputable def kOf (c s : Nat) (want : Int) : Nat := if h : ∃ k : Nat, k < s ∧ (s : Int) ∣ (c : Int) * k - want then Classical.choose h else 0
theorem kOf_lt {c s : Nat} {want : Int} (h : 0 < s) : kOf c s want < s := by
  unfold kOf
  split
  · rename_i h; exact (Classical.choose_spec h).1
  · exact h
theorem k_uniq {c s k j : Nat} (hg : Nat.gcd c s = 1) (hkj : k ≤ j) (hj : j < s) {want : Int} (h1 : (s : Int) ∣ (c : Int) * k - want) (h2 : (s : Int) ∣ (c : Int) * j - want) : j = k := by
  have h3 := Int.dvd_sub h2 h1
  have e : (c : Int) * j - want - ((c : Int) * k - want) = ((c * (j - k) : Nat) : Int) := by
    rw [Int.natCast_mul, Int.ofNat_sub hkj, Int.mul_sub]; omega
  rw [e, Int.natCast_dvd_natCast] at h3
  have h4 : s ∣ j - k := Nat.Coprime.dvd_of_dvd_mul_left (show Nat.Coprime s c by rw [Nat.coprime_comm]; exact hg) h3
  rcases Nat.eq_zero_or_pos (j - k) with h | h
  · omega
  · have := Nat.le_of_dvd h h4; omega
theorem kOf_eq {c s k : Nat} {want : Int} (hg : Nat.gcd c s = 1) (hk : k < s) (h : (s : Int) ∣ (c : Int) * k - want) : kOf c s want = k := by
  have hex : ∃ k : Nat, k < s ∧ (s : Int) ∣ (c : Int) * k - want := ⟨k, hk, h⟩
  have e : kOf c s want = Classical.choose hex := by unfold kOf; rw [dif_pos hex]
  obtain ⟨h1, h2⟩ := Classical.choose_spec hex
  rw [e]
  rcases Nat.le_total k (Classical.choose hex) with h3 | h3
  · exact k_uniq hg h3 h1 h h2
  · exact (k_uniq hg h3 hk h2 h).symm
/-- the number that an inverse gives -/
theorem kOf_inv {c s : Nat} {want v : Int} (hg : Nat.gcd c s = 1) (hs : 0 < s) (hv : (s : Int) ∣ v * c - 1) : kOf c s want = ((want * v) % s).toNat := by
  have h1 := Int.emod_nonneg (want * v) (show (s : Int) ≠ 0 by omega)
  have h2 := Int.emod_lt_of_pos (want * v) (show (0 : Int) < s by omega)
  refine kOf_eq hg (by omega) ?_
  rw [Int.toNat_of_nonneg h1]
  have e : (want * v) % s = want * v - s * (want * v / s) := by have := Int.mul_ediv_add_emod (want * v) s; omega
  rw [e]
  have e2 : (c : Int) * (want * v - s * (want * v / s)) - want = want * (v * c - 1) - s * (c * (want * v / s)) := by
    rw [Int.mul_sub, Int.mul_sub]
    have a1 : (c : Int) * (want * v) = want * (v * c) := by rw [Int.mul_comm, Int.mul_assoc]
    have a2 : (c : Int) * (s * (want * v / s)) = s * (c * (want * v / s)) := by rw [← Int.mul_assoc, Int.mul_comm c s, Int.mul_assoc]
    rw [a1, a2]; omega
  rw [e2]
  exact Int.dvd_sub (Int.dvd_mul_of_dvd_right hv) (Int.dvd_mul_right _ _)
theorem gcd_step (x k : Nat) : Nat.gcd k (x % k) = Nat.gcd x k := by
  rw [Nat.gcd_comm k (x % k), ← Nat.gcd_rec, Nat.gcd_comm]
theorem bez_step {s c : Nat} {be nw hi lo t : Int} (h1 : (s : Int) ∣ be * c - hi) (h2 : (s : Int) ∣ nw * c - lo) : (s : Int) ∣ (be - t * nw) * c - (hi - t * lo) := by
  have e : (be - t * nw) * c - (hi - t * lo) = (be * c - hi) - t * (nw * c - lo) := by
    rw [Int.sub_mul, Int.mul_sub, Int.mul_assoc]; omega
  rw [e]
  exact Int.dvd_sub h1 (Int.dvd_mul_of_dvd_right h2)
theorem bnd_step {be nw : Int} {hi lo t s : Nat} (h : be.natAbs * lo + nw.natAbs * hi ≤ s) (ht : t * lo ≤ hi) : nw.natAbs * (hi - t * lo) + (be - (t : Int) * nw).natAbs * lo ≤ s := by
  have h1 : (be - (t : Int) * nw).natAbs ≤ be.natAbs + t * nw.natAbs := by
    have := Int.natAbs_sub_le be ((t : Int) * nw)
    rw [Int.natAbs_mul, Int.natAbs_natCast] at this
    exact this
  have h2 := Nat.mul_le_mul_right lo h1
  rw [Nat.add_mul] at h2
  have h3 : nw.natAbs * (hi - t * lo) + t * nw.natAbs * lo = nw.natAbs * hi := by
    have e : t * nw.natAbs * lo = nw.natAbs * (t * lo) := by rw [Nat.mul_comm t, Nat.mul_assoc]
    rw [e, ← Nat.mul_add, Nat.sub_add_cancel ht]
  omega
/-- the day on which they meet -/
noncomputable def metGo (ps bs : List Nat) : Nat → Nat → List Nat → Option Nat
  | day, _, [] => some day
  | day, per, c :: l => if ((bs.getD c default : Nat) - (day : Int)) % (Nat.gcd per (ps.getD c default) : Nat) = 0 then
      metGo ps bs (day + per * kOf (per / Nat.gcd per (ps.getD c default)) (ps.getD c default / Nat.gcd per (ps.getD c default)) (((bs.getD c default : Nat) - (day : Int)) / (Nat.gcd per (ps.getD c default) : Nat))) (per * (ps.getD c default / Nat.gcd per (ps.getD c default))) l
    else none
theorem gcd_facts {per p : Nat} (h1 : 1 ≤ per) (hp : 1 ≤ p) : 0 < Nat.gcd per p ∧ Nat.gcd per p ≤ p ∧ 0 < per / Nat.gcd per p ∧ 0 < p / Nat.gcd per p ∧ p / Nat.gcd per p ≤ p ∧ Nat.gcd (per / Nat.gcd per p) (p / Nat.gcd per p) = 1 ∧ Nat.lcm per p = per * (p / Nat.gcd per p) := by
  have g0 : 0 < Nat.gcd per p := Nat.gcd_pos_of_pos_left _ h1
  have gp := Nat.le_of_dvd hp (Nat.gcd_dvd_right per p)
  have gq := Nat.le_of_dvd h1 (Nat.gcd_dvd_left per p)
  refine ⟨g0, gp, Nat.div_pos gq g0, Nat.div_pos gp g0, Nat.div_le_self _ _, ?_, ?_⟩
  · exact Nat.coprime_div_gcd_div_gcd g0
  · unfold Nat.lcm
    exact Nat.mul_div_assoc _ (Nat.gcd_dvd_right per p)
namespace T
theorem factor_ok (m : Nat) (a b : Nat) (S : Sto) : callN Pg (m + 1) i_L_factor [nD a, nD b] S = .ok (nD (Nat.gcd a b)) S := by
  refine callO (f := f_L_factor.fn) rfl rfl rfl rfl rfl ?_
  show Wp _ b_L_factor [some (nD a), some (nD b)] [] _
  refine w_whl (fun k σ S => ∃ x : Nat, Nat.gcd x k = Nat.gcd a b ∧ σ = [some (nD x), some (nD k)] ∧ S = []) retD_no (fun k σ S ⟨x, hx, hσ, hS⟩ => ?_) ⟨a, rfl, rfl, rfl⟩
  subst hσ hS
  refine ⟨decide (0 < k), _, _, r_cmp (ev_var rfl) ev_lit (cm_gtN (b := 0)), rfl, fun ht => ?_, fun ht => ?_⟩
  · have h0 : k = 0 := by have := of_decide_eq_false ht; omega
    subst h0
    rw [← hx, Nat.gcd_zero_right]
    exact w_retV (ev_var rfl) retD
  · have h0 : 0 < k := of_decide_eq_true ht
    exact w_par (ev_var rfl) (r_bin (r_b1 (ev_var rfl) (b_intI _)) (ev_var rfl) (op_modN h0)) (w_nil ⟨x % k, Nat.mod_lt _ h0, k, by rw [gcd_step, hx], rfl, rfl⟩)
theorem inverse_ok (m : Nat) {c s : Nat} (hs : 2 ≤ s) (hs2 : s ≤ 1000000) (hg : Nat.gcd c s = 1) (S : Sto) : ∃ v : Nat, callN Pg (m + 1) i_inverse [nD c, nD s] S = .ok (nD v) S ∧ v < s ∧ (s : Int) ∣ (v : Int) * c - 1 := by
  have key : ∃ d, callN Pg (m + 1) i_inverse [nD c, nD s] S = .ok d S ∧ ∃ v : Nat, d = nD v ∧ v < s ∧ (s : Int) ∣ (v : Int) * c - 1 := by
    refine callOE (f := f_inverse.fn) rfl rfl rfl rfl (fun d ⟨v, h, _⟩ => by subst h; rfl) ?_
    show Wp _ b_inverse [some (nD c), some (nD s), none, none, none, none, none] [] _
    refine w_par (ev_var rfl) (r_bin (ev_var rfl) (ev_var rfl) (op_modN (by omega))) ?_
    refine w_asgV (r_tup (r_consV ev_lit (r_consV ev_lit r_nil))) rfl ?_
    refine w_whl (fun k σ S => ∃ (hi : Nat) (be nw : Int) (z : Option D), k < hi ∧ 2 ≤ hi ∧ k ≤ 1000000 ∧ Nat.gcd hi k = 1 ∧ (s : Int) ∣ be * c - hi ∧ (s : Int) ∣ nw * c - k ∧ be.natAbs * k + nw.natAbs * hi ≤ s ∧ σ = [some (nD c), some (nD s), some (nD hi), some (nD k), some (.int be), some (.int nw), z] ∧ S = [])
      (fun ⟨d, S1, h, _⟩ => by cases h) (fun k σ S ⟨hi, be, nw, z, h1, h2, h3, h4, h5, h6, h7, hσ, hS⟩ => ?_) ⟨s, 0, 1, none, Nat.mod_lt _ (by omega), hs, Nat.le_trans (Nat.le_of_lt (Nat.mod_lt _ (by omega))) hs2, by rw [gcd_step, hg], ?_, ?_, by simp, rfl, rfl⟩
    · subst hσ hS
      refine ⟨decide (1 < k), _, _, r_cmp (ev_var rfl) ev_lit (cm_gtN (b := 1)), rfl, fun ht => ?_, fun ht => ?_⟩
      · have k1 : k ≤ 1 := by have := of_decide_eq_false ht; omega
        have k2 : k = 1 := by
          rcases Nat.lt_or_ge k 1 with h | h
          · have : k = 0 := by omega
            subst this
            rw [Nat.gcd_zero_right] at h4
            omega
          · omega
        subst k2
        refine w_retV (r_bin (ev_var rfl) (ev_var rfl) (op_modI (by omega))) ?_
        have e1 := Int.emod_nonneg nw (show (s : Int) ≠ 0 by omega)
        have e2 := Int.emod_lt_of_pos nw (show (0 : Int) < s by omega)
        refine ⟨_, _, rfl, (nw % (s : Int)).toNat, by rw [nD, Int.toNat_of_nonneg e1], by omega, ?_⟩
        rw [Int.toNat_of_nonneg e1]
        have e3 : (nw % (s : Int)) * c - 1 = (nw * c - 1) - s * (nw / s * c) := by
          have : nw % (s : Int) = nw - s * (nw / s) := by have := Int.mul_ediv_add_emod nw s; omega
          rw [this, Int.sub_mul, Int.mul_assoc]; omega
        rw [e3]
        exact Int.dvd_sub h6 (Int.dvd_mul_right _ _)
      · have k2 : 1 < k := of_decide_eq_true ht
        have nb : nw.natAbs ≤ 1000000 := by
          have : nw.natAbs * 1 ≤ nw.natAbs * hi := Nat.mul_le_mul_left _ (by omega)
          omega
        have hdl : hi / k * k ≤ hi := Nat.div_mul_le_self _ _
        have hml : hi - hi / k * k = hi % k := by have := Nat.div_add_mod hi k; rw [Nat.mul_comm] at this; omega
        have hm2 := Nat.mod_lt hi (show k > 0 by omega)
        refine w_asgV (r_bin (ev_var rfl) (ev_var rfl) (op_fdivN (by omega) (by omega))) rfl ?_
        refine w_par (ev_var rfl) (r_bin (ev_var rfl) (r_bin (ev_var rfl) (ev_var rfl) (op_mulN (by omega))) (op_subN hdl)) ?_
        refine w_par (ev_var rfl) (r_bin (ev_var rfl) (r_bin (ev_var rfl) (ev_var rfl) (op_mulI (mulOk_r2 (by omega)))) op_subI) ?_
        refine w_nil ⟨hi - hi / k * k, by omega, k, nw, be - ((hi / k : Nat) : Int) * nw, _, by omega, by omega, by omega, ?_, h6, ?_, bnd_step h7 hdl, rfl, rfl⟩
        · rw [hml, gcd_step, h4]
        · have := bez_step (t := ((hi / k : Nat) : Int)) h5 h6
          rw [Int.ofNat_sub hdl, Int.natCast_mul]
          exact this
    · rw [Int.zero_mul, Int.zero_sub]; exact Int.dvd_neg.mpr (Int.dvd_refl _)
    · refine ⟨((c / s : Nat) : Int), ?_⟩
      have := Nat.div_add_mod c s
      have h2 : ((s * (c / s) + c % s : Nat) : Int) = c := by rw [this]
      rw [Int.natCast_add, Int.natCast_mul] at h2
      omega
  obtain ⟨d, h1, v, rfl, h2, h3⟩ := key
  exact ⟨v, h1, h2, h3⟩
theorem together_ok (m : Nat) {day per b p : Nat} (h1 : 1 ≤ per) (hp : 1 ≤ p) (hp2 : p ≤ 1000000) (S : Sto) : callN Pg (m + 2) i_put_together [nD day, nD per, nD b, nD p] S =
    .ok (optD nD (if ((b : Int) - day) % (Nat.gcd per p : Nat) = 0 then some (day + per * kOf (per / Nat.gcd per p) (p / Nat.gcd per p) (((b : Int) - day) / (Nat.gcd per p : Nat))) else none)) S := by
  obtain ⟨g0, gp, c0, s0, sp, cop, lc⟩ := gcd_facts h1 hp
  refine callO (f := f_put_together.fn) rfl rfl rfl rfl (by split <;> rfl) ?_
  show Wp _ b_put_together [some (nD day), some (nD per), some (nD b), some (nD p), none, none, none] [] _
  refine w_asgV (r_b2 (ev_var rfl) (ev_var rfl) (b_gcdN _ _)) rfl ?_
  generalize Nat.gcd per p = g at g0 gp c0 s0 sp cop lc
  refine w_iff (t := !decide (((b : Int) - day) % (g : Nat) = 0)) (r_cmp (r_bin (r_bin (ev_var rfl) (ev_var rfl) op_subI) (ev_var rfl) (op_modI (by omega))) ev_lit cm_ne) rfl (fun hz => ?_) (fun hz => w_end ?_)
  · rw [if_neg (by simpa using hz)]
    exact w_retV ev_lit retD
  rw [if_pos (by simpa using hz)]
  refine w_asgV (r_bin (ev_var rfl) (ev_var rfl) (op_fdivN g0 (by omega))) rfl ?_
  generalize p / g = s at s0 sp cop lc
  refine w_iff (t := decide (s = 1)) (r_cmp (ev_var rfl) ev_lit (cm_eqN (b := 1))) rfl (fun hs => ?_) (fun hs => w_end ?_)
  · have e : s = 1 := of_decide_eq_true hs
    have k0 := kOf_lt (c := per / g) (want := ((b : Int) - day) / (g : Nat)) s0
    have : kOf (per / g) s (((b : Int) - day) / (g : Nat)) = 0 := by omega
    rw [this, Nat.mul_zero, Nat.add_zero]
    exact w_retV (ev_var rfl) retD
  · have e : s ≠ 1 := of_decide_eq_false hs
    obtain ⟨v, cv, vs, dv⟩ := inverse_ok m (c := per / g) (s := s) (by omega) (by omega) cop []
    have ek := kOf_inv (want := ((b : Int) - day) / (g : Nat)) cop s0 dv
    have e1 := Int.emod_nonneg (((b : Int) - day) / (g : Nat) * v) (show (s : Int) ≠ 0 by omega)
    have e2 := Int.emod_lt_of_pos (((b : Int) - day) / (g : Nat) * v) (show (0 : Int) < s by omega)
    refine w_asgV (d := nD (kOf (per / g) s (((b : Int) - day) / (g : Nat)))) (S1 := []) (r_bin (r_bin (r_bin (r_bin (ev_var rfl) (ev_var rfl) op_subI) (ev_var rfl) (op_fdivI (by omega) (log_small (by omega)))) (r_call (r_consV (r_bin (ev_var rfl) (ev_var rfl) (op_fdivN g0 (by omega))) (r_consV (ev_var rfl) r_nil)) cv) (op_mulI (mulOk_r2 (by omega)))) (ev_var rfl) ?_) rfl ?_
    · rw [op_modI (by omega), ek, nD, Int.toNat_of_nonneg e1]
    · have kl := kOf_lt (c := per / g) (want := ((b : Int) - day) / (g : Nat)) s0
      generalize kOf (per / g) s (((b : Int) - day) / (g : Nat)) = kk at kl
      refine w_retV (r_bin (ev_var rfl) (r_bin (ev_var rfl) (ev_var rfl) (op_mulN (by omega))) op_addN) ?_
      rw [Nat.mul_comm]
      exact retD
end T
end Nog

set_option Elab.async false
set_option linter.all false
set_option maxRecDepth 100000
set_option maxHeartbeats 4000000
/-! k99: meeting days, by the program and by the law -/
namespace Nog
theorem pow_big {k per : Nat} (hk : k ≤ 6) (h : per ≤ 1000000 ^ k) : per < 2 ^ 1000 := by
  have h1 : 1000000 ^ k ≤ 1000000 ^ 6 := Nat.pow_le_pow_right (by decide) hk
  have h2 : 1000000 ^ 6 < 2 ^ 1000 := by decide
  omega
theorem per_next {k per s : Nat} (h : per ≤ 1000000 ^ k) (hs : s ≤ 1000000) : per * s ≤ 1000000 ^ (k + 1) := by
  rw [Nat.pow_succ]
  exact Nat.mul_le_mul h hs
theorem day_next {day per k s : Nat} (h : day < per) (hk : k < s) : day + per * k < per * s := by
  have : per * (k + 1) ≤ per * s := Nat.mul_le_mul_left _ hk
  rw [Nat.mul_add, Nat.mul_one] at this
  omega
theorem metGo_cons {ps bs : List Nat} {day per c : Nat} {l : List Nat} : metGo ps bs day per (c :: l) = if ((bs.getD c default : Nat) - (day : Int)) % (Nat.gcd per (ps.getD c default) : Nat) = 0 then
      metGo ps bs (day + per * kOf (per / Nat.gcd per (ps.getD c default)) (ps.getD c default / Nat.gcd per (ps.getD c default)) (((bs.getD c default : Nat) - (day : Int)) / (Nat.gcd per (ps.getD c default) : Nat))) (per * (ps.getD c default / Nat.gcd per (ps.getD c default))) l
    else none := rfl
theorem drop_pre {α : Type} {l pre post : List α} {a : α} (e : l = pre ++ a :: post) : l.drop pre.length = a :: post := by rw [e]; simp
theorem drop_pre1 {α : Type} {l pre post : List α} {a : α} (e : l = pre ++ a :: post) : l.drop (pre ++ [a]).length = post := by rw [e]; simp
theorem getD_mem {l : List Nat} {i : Nat} (h : i < l.length) : l.getD i default ∈ l := by
  rw [List.getD_eq_getElem?_getD, List.getElem?_eq_getElem h]; exact List.getElem_mem h
theorem ix_lot {S : Sto} {l : List Nat} {i : Nat} (h : i < l.length) : ixP S (.val (lotD l)) (.val (nD i)) = some (nD (l.getD i default)) := ix_map h
namespace T
section
variable {ps bs lot : List Nat}
theorem meeting_ok (m : Nat) (hb : bs.length = ps.length) (hp : ∀ p ∈ ps, 1 ≤ p ∧ p ≤ 1000000) (hlot : ∀ c ∈ lot, c < ps.length) (hn : lot.length ≤ 6) (S : Sto) : callN Pg (m + 3) i_meeting_day [lotD ps, lotD bs, lotD lot] S = .ok (optD nD (metGo ps bs 0 1 lot)) S := by
  refine callO (f := f_meeting_day.fn) rfl rfl rfl (goodL_cons (good_lot ps (k := 0)) (goodL_cons (good_lot bs) (goodL_cons (good_lot lot) goodL_nil))).1 (by cases metGo ps bs 0 1 lot <;> rfl) ?_
  show Wp _ b_meeting_day [some (lotD ps), some (lotD bs), some (lotD lot), none, none, none] [] _
  refine w_asgV (r_tup (r_consV ev_lit (r_consV ev_lit r_nil))) rfl ?_
  refine w_fr (as := lot) (enc := nD) (fun pre σ S => ∃ (day per : Nat) (z : Option D), metGo ps bs 0 1 lot = metGo ps bs day per (lot.drop pre.length) ∧ day < per ∧ per ≤ 1000000 ^ pre.length ∧ σ = [some (lotD ps), some (lotD bs), some (lotD lot), z, some (nD day), some (nD per)] ∧ S = [])
    (ev_var rfl) rfl rfl rfl ⟨0, 1, none, rfl, by decide, by decide, rfl, rfl⟩ (fun _ _ _ _ => rfl) (fun pre c post σ S e ⟨day, per, z, hm, hd, hpe, hσ, hS⟩ => ?_) (fun σ S ⟨day, per, z, hm, hd, hpe, hσ, hS⟩ => ?_)
  · subst hσ hS
    refine ⟨_, rfl, ?_⟩
    have hc : c < ps.length := hlot c (by rw [e]; simp)
    have hpre : pre.length < 6 := by have := congrArg List.length e; simp at this; omega
    obtain ⟨p1, p2⟩ := hp _ (getD_mem hc)
    rw [drop_pre e, metGo_cons] at hm
    refine w_asgV (r_call (r_consV (ev_var rfl) (r_consV (ev_var rfl) (r_consV (r_ix (ev_var rfl) (ev_var rfl) (ix_lot (by omega))) (r_consV (r_ix (ev_var rfl) (ev_var rfl) (ix_lot hc)) r_nil)))) (together_ok m (by omega) p1 p2 _)) rfl ?_
    obtain ⟨g0, gp, c0, s0, sp, cop, lc⟩ := gcd_facts (show 1 ≤ per by omega) p1
    by_cases hz : ((bs.getD c default : Nat) - (day : Int)) % (Nat.gcd per (ps.getD c default) : Nat) = 0
    · rw [if_pos hz] at hm
      rw [if_pos hz]
      have kl := kOf_lt (c := per / Nat.gcd per (ps.getD c default)) (want := ((bs.getD c default : Nat) - (day : Int)) / (Nat.gcd per (ps.getD c default) : Nat)) s0
      have dn := day_next hd kl
      refine w_iff (t := false) (r_isn (ev_var rfl)) rfl (fun h => by cases h) (fun _ => w_end ?_)
      have pe2 := per_next hpe (show ps.getD c default / Nat.gcd per (ps.getD c default) ≤ 1000000 by omega)
      refine w_asgV (r_b2 (ev_var rfl) (r_ix (ev_var rfl) (ev_var rfl) (ix_lot hc)) (b_lcmN (pow_big (by omega) hpe) (Nat.lt_of_le_of_lt p2 (by decide)))) rfl ?_
      rw [lc]
      refine w_asgV (r_bin (ev_var rfl) (ev_var rfl) (op_modN (by omega))) rfl ?_
      rw [Nat.mod_eq_of_lt dn]
      exact w_nil ⟨_, _, _, by rw [drop_pre1 e]; exact hm, dn, by rw [List.length_append]; exact pe2, rfl, rfl⟩
    · rw [if_neg hz] at hm
      rw [if_neg hz]
      refine w_iff (t := true) (r_isn (ev_var rfl)) rfl (fun _ => ?_) (fun h => by cases h)
      rw [hm]
      exact w_retV ev_lit retD
  · subst hσ hS
    rw [List.drop_length] at hm
    rw [hm]
    exact w_retV (ev_var rfl) retD
theorem met_ok (m : Nat) (hb : bs.length = ps.length) (hp : ∀ p ∈ ps, 1 ≤ p ∧ p ≤ 1000000) (hlot : ∀ c ∈ lot, c < ps.length) (hn : lot.length ≤ 6) (S : Sto) : callN Pg (m + 3) i_L_met [lotD ps, lotD bs, lotD lot] S = .ok (optD nD (metGo ps bs 0 1 lot)) S := by
  refine callO (f := f_L_met.fn) rfl rfl rfl (goodL_cons (good_lot ps (k := 0)) (goodL_cons (good_lot bs) (goodL_cons (good_lot lot) goodL_nil))).1 (by cases metGo ps bs 0 1 lot <;> rfl) ?_
  show Wp _ b_L_met [some (lotD ps), some (lotD bs), some (lotD lot), none, none, none, none, none, none, none, none, none, none, none, none] [] _
  refine w_asgV (r_tup (r_consV ev_lit (r_consV ev_lit r_nil))) rfl ?_
  refine w_fr (as := lot) (enc := nD) (fun pre σ S => ∃ (day per : Nat) (x0 x1 x2 x3 x4 x5 x6 x7 x8 x9 : Option D), metGo ps bs 0 1 lot = metGo ps bs day per (lot.drop pre.length) ∧ day < per ∧ per ≤ 1000000 ^ pre.length ∧ σ = [some (lotD ps), some (lotD bs), some (lotD lot), x0, some (nD day), some (nD per), x1, x2, x3, x4, x5, x6, x7, x8, x9] ∧ S = [])
    (ev_var rfl) rfl rfl rfl ⟨0, 1, none, none, none, none, none, none, none, none, none, none, rfl, by decide, by decide, rfl, rfl⟩ (fun _ _ _ _ => rfl) (fun pre c post σ S e ⟨day, per, x0, x1, x2, x3, x4, x5, x6, x7, x8, x9, hm, hd, hpe, hσ, hS⟩ => ?_) (fun σ S ⟨day, per, x0, x1, x2, x3, x4, x5, x6, x7, x8, x9, hm, hd, hpe, hσ, hS⟩ => ?_)
  · subst hσ hS
    refine ⟨_, rfl, ?_⟩
    have hc : c < ps.length := hlot c (by rw [e]; simp)
    have hpre : pre.length < 6 := by have := congrArg List.length e; simp at this; omega
    obtain ⟨p1, p2⟩ := hp _ (getD_mem hc)
    rw [drop_pre e, metGo_cons] at hm
    obtain ⟨g0, gp, c0, s0, sp, cop, lc⟩ := gcd_facts (show 1 ≤ per by omega) p1
    refine w_asgV (r_ix (ev_var rfl) (ev_var rfl) (ix_lot hc)) rfl ?_
    have hbi : ∀ S : Sto, ixP S (.val (lotD bs)) (.val (nD c)) = some (nD (bs.getD c default)) := fun S => ix_lot (by omega)
    generalize ps.getD c default = p at p1 p2 hm g0 gp c0 s0 sp cop lc
    generalize bs.getD c default = b at hm hbi
    refine w_asgV (r_call (r_consV (ev_var rfl) (r_consV (ev_var rfl) r_nil)) (factor_ok (m + 1) _ _ _)) rfl ?_
    generalize Nat.gcd per p = g at hm g0 gp c0 s0 sp cop lc
    refine w_iff (t := !decide (((b : Int) - day) % (g : Nat) = 0)) (r_cmp (r_bin (r_b1 (r_bin (r_ix (ev_var rfl) (ev_var rfl) (hbi _)) (ev_var rfl) op_subI) (b_intI _)) (ev_var rfl) (op_modI (by omega))) ev_lit cm_ne) rfl (fun hz => ?_) (fun hz => w_end ?_)
    · rw [if_neg (by simpa using hz)] at hm
      rw [hm]
      exact w_retV ev_lit retD
    rw [if_pos (by simpa using hz)] at hm
    refine w_asgV (r_bin (r_b1 (r_bin (r_ix (ev_var rfl) (ev_var rfl) (hbi _)) (ev_var rfl) op_subI) (b_intI _)) (ev_var rfl) (op_fdivI (by omega) (log_small (by omega)))) rfl ?_
    refine w_asgV (r_bin (ev_var rfl) (ev_var rfl) (op_fdivN g0 (by omega))) rfl ?_
    refine w_asgV (r_tup (r_consV (r_bin (ev_var rfl) (ev_var rfl) (op_fdivN g0 (by omega))) (r_consV (ev_var rfl) (r_consV ev_lit (r_consV ev_lit r_nil))))) rfl ?_
    generalize ((b : Int) - day) / (g : Nat) = want at hm
    generalize p / g = s at hm s0 sp cop lc
    generalize hcc : per / g = cc at hm c0 cop
    refine w_whl (fun k σ S => ∃ (one : Nat) (fi se : Int) (z : Option D), k ≤ 1000000 ∧ 1 ≤ one ∧ Nat.gcd one k = 1 ∧ (s : Int) ∣ fi * cc - one ∧ (s : Int) ∣ se * cc - k ∧ fi.natAbs * k + se.natAbs * one ≤ s ∧ fi.natAbs ≤ s ∧ σ = [some (lotD ps), some (lotD bs), some (lotD lot), some (nD c), some (nD day), some (nD per), some (nD p), some (nD g), some (.int want), some (nD s), some (nD one), some (nD k), some (.int fi), some (.int se), z] ∧ S = [])
      retD_no (fun k σ S ⟨one, fi, se, z, h1, h2, h3, h4, h5, h6, h7, hσ, hS⟩ => ?_) ⟨cc, 1, 0, x9, by omega, c0, cop, ?_, ?_, by simp, by simp; omega, rfl, rfl⟩
    · subst hσ hS
      refine ⟨decide (0 < k), _, _, r_cmp (ev_var rfl) ev_lit (cm_gtN (b := 0)), rfl, fun ht => ?_, fun ht => ?_⟩
      · have k0 : k = 0 := by have := of_decide_eq_false ht; omega
        subst k0
        rw [Nat.gcd_zero_right] at h3
        subst h3
        have ek := kOf_inv (want := want) cop s0 h4
        have e1 := Int.emod_nonneg (want * fi) (show (s : Int) ≠ 0 by omega)
        have kl := kOf_lt (c := cc) (want := want) s0
        have dn := day_next hd kl
        refine w_asgV (d := nD (day + per * kOf cc s want)) (S1 := []) (r_bin (ev_var rfl) (r_bin (q := .val (nD (kOf cc s want))) (ev_var rfl) (r_bin (r_b1 (r_bin (ev_var rfl) (ev_var rfl) (op_mulI (mulOk_r2 (by omega)))) (b_intI _)) (ev_var rfl) ?_) (op_mulN (by omega))) op_addN) rfl ?_
        · rw [op_modI (by omega), ek, nD, Int.toNat_of_nonneg e1]
        refine w_asgV (r_bin (ev_var rfl) (ev_var rfl) (op_mulN (by omega))) rfl ?_
        exact w_nil ⟨_, _, _, _, _, _, _, _, _, _, _, _, by rw [drop_pre1 e]; exact hm, dn, by rw [List.length_append]; exact per_next hpe (by omega), rfl, rfl⟩
      · have k0 : 0 < k := of_decide_eq_true ht
        have sb : se.natAbs ≤ s := by
          have : se.natAbs * 1 ≤ se.natAbs * one := Nat.mul_le_mul_left _ h2
          omega
        have hdl : one / k * k ≤ one := Nat.div_mul_le_self _ _
        have hml : one - one / k * k = one % k := by have := Nat.div_add_mod one k; rw [Nat.mul_comm] at this; omega
        have hm2 := Nat.mod_lt one k0
        refine w_asgV (r_bin (ev_var rfl) (ev_var rfl) (op_fdivN (by omega) (by omega))) rfl ?_
        refine w_par (ev_var rfl) (r_bin (ev_var rfl) (r_bin (ev_var rfl) (ev_var rfl) (op_mulN (by omega))) (op_subN hdl)) ?_
        refine w_par (ev_var rfl) (r_bin (ev_var rfl) (r_bin (ev_var rfl) (ev_var rfl) (op_mulI (mulOk_r2 (by omega)))) op_subI) ?_
        refine w_nil ⟨one - one / k * k, by omega, k, se, fi - ((one / k : Nat) : Int) * se, _, by omega, by omega, ?_, h5, ?_, bnd_step h6 hdl, sb, rfl, rfl⟩
        · rw [hml, gcd_step, h3]
        · have := bez_step (t := ((one / k : Nat) : Int)) h4 h5
          rw [Int.ofNat_sub hdl, Int.natCast_mul]
          exact this
    · rw [Int.one_mul, Int.sub_self]; exact Int.dvd_zero _
    · rw [Int.zero_mul, Int.zero_sub]; exact Int.dvd_neg.mpr (Int.dvd_refl _)
  · subst hσ hS
    rw [List.drop_length] at hm
    rw [hm]
    refine w_retV (r_bin (r_b1 (ev_var rfl) (b_intI _)) (ev_var rfl) (op_modN (by omega))) ?_
    rw [Nat.mod_eq_of_lt hd]
    exact retD
theorem common_ok (m : Nat) (hp : ∀ p ∈ ps, 1 ≤ p ∧ p ≤ 1000000) (hn : ps.length ≤ 6) (S : Sto) : callN Pg (m + 1) i_common_period [lotD ps] S = .ok (nD (ps.foldl Nat.lcm 1)) S := by
  refine callO (f := f_common_period.fn) rfl rfl rfl (goodL_cons (good_lot ps (k := 0)) goodL_nil).1 rfl ?_
  show Wp _ b_common_period [some (lotD ps), none, none] [] _
  refine w_asgV ev_lit rfl ?_
  refine w_fr (as := ps) (enc := nD) (fun pre σ S => ∃ (per : Nat) (z : Option D), ps.foldl Nat.lcm 1 = (ps.drop pre.length).foldl Nat.lcm per ∧ 1 ≤ per ∧ per ≤ 1000000 ^ pre.length ∧ σ = [some (lotD ps), some (nD per), z] ∧ S = [])
    (ev_var rfl) rfl rfl rfl ⟨1, none, rfl, by decide, by decide, rfl, rfl⟩ (fun _ _ _ _ => rfl) (fun pre c post σ S e ⟨per, z, hm, hd, hpe, hσ, hS⟩ => ?_) (fun σ S ⟨per, z, hm, hd, hpe, hσ, hS⟩ => ?_)
  · subst hσ hS
    refine ⟨_, rfl, ?_⟩
    have hpre : pre.length < 6 := by have := congrArg List.length e; simp at this; omega
    obtain ⟨p1, p2⟩ := hp c (by rw [e]; simp)
    obtain ⟨g0, gp, c0, s0, sp, cop, lc⟩ := gcd_facts hd p1
    rw [drop_pre e, List.foldl_cons] at hm
    refine w_asgV (r_b2 (ev_var rfl) (ev_var rfl) (b_lcmN (pow_big (by omega) hpe) (Nat.lt_of_le_of_lt p2 (by decide)))) rfl (w_nil ⟨_, _, by rw [drop_pre1 e]; exact hm, ?_, ?_, rfl, rfl⟩)
    · rw [lc]; exact Nat.mul_pos hd s0
    · rw [lc, List.length_append]; exact per_next hpe (by omega)
  · subst hσ hS
    rw [List.drop_length] at hm
    rw [hm]
    exact w_retV (ev_var rfl) retD
theorem periodlot_ok (m : Nat) (hb : bs.length = ps.length) (hp : ∀ p ∈ ps, 1 ≤ p) (hn : ps.length ≤ 6) (day : Nat) (S : Sto) : callN Pg (m + 1) i_period_lot [lotD ps, lotD bs, nD day] S = .ok (lotD ((List.range ps.length).filter fun i => decide (day % ps.getD i default = bs.getD i default))) S := by
  refine callO (f := f_period_lot.fn) rfl rfl rfl (goodL_cons (good_lot ps (k := 0)) (goodL_cons (good_lot bs) (goodL_cons (good_int _) goodL_nil))).1 (good_lot _ (k := 0)).1 ?_
  show Wp _ b_period_lot [some (lotD ps), some (lotD bs), some (nD day), none, none] [] _
  refine w_retV (r_b1 (r_lc (as := List.range ps.length) (fun i => decide (day % ps.getD i default = bs.getD i default)) nD (r_enu (ev_var rfl) (sq_tup ..)) (it_its ..) (enum0 ..) rfl rfl fun i hi => ?_) (b_tupF ..)) retD
  have hi2 := List.mem_range.mp hi
  exact lcStep_if rfl (r_if1 (r_cmp (r_bin (ev_var rfl) (ev_var rfl) (op_modN (hp _ (getD_mem hi2)))) (r_ix (ev_var rfl) (ev_var rfl) (ix_lot (by omega))) cm_eqN) rfl) fun _ => ev_var rfl
end
end T
end Nog

set_option Elab.async false
set_option linter.all false
set_option maxRecDepth 100000
set_option maxHeartbeats 4000000
/-! k99: two kinds of gaps, plain -/
namespace Nog
def firstsL (gs : List Nat) (a : Nat) : List Nat := (List.range gs.length).filter fun i => decide (gs.getD i default = a)
def othersL (gs : List Nat) (a : Nat) : List Nat := (List.range gs.length).filter fun i => !decide (gs.getD i default = a)
/-- the gaps are a and b only, and fit the hands -/
structure Kn (gs : List Nat) (hands a b : Nat) : Prop where
  len : gs.length ≤ 24
  h1 : 1 ≤ hands
  h3 : hands ≤ 3
  a1 : 1 ≤ a
  ab : a < b
  b100 : b ≤ 100
  mem : ∀ g ∈ gs, g = a ∨ g = b
  has : a ∈ gs
  share : (firstsL gs a).length * b + (othersL gs a).length * a ≤ hands * a * b
def turnsL (c : List Nat) (begin k : Nat) : List Nat := (List.range k).map fun t => c.getD ((begin + t) % c.length) default
def ahd (m a day : Nat) : Nat := day * m / a
/-- the lot of a day -/
def lotU (gs : List Nat) (hands a day : Nat) : List Nat :=
  turnsL (firstsL gs a) (ahd (firstsL gs a).length a day) (ahd (firstsL gs a).length a (day + 1) - ahd (firstsL gs a).length a day) ++
    turnsL (othersL gs a) (hands * day - ahd (firstsL gs a).length a day) (min (hands - (ahd (firstsL gs a).length a (day + 1) - ahd (firstsL gs a).length a day)) (othersL gs a).length)
def lotK (gs : List Nat) (hands a day : Nat) : List Nat := srt (lotU gs hands a day)
theorem turnsL_len (c : List Nat) (x k : Nat) : (turnsL c x k).length = k := by unfold turnsL; rw [List.length_map, List.length_range]
section
variable {gs : List Nat} {hands a b : Nat}
theorem Kn.m1 (h : Kn gs hands a b) : 1 ≤ (firstsL gs a).length := by
  obtain ⟨i, hi, e⟩ := List.getElem_of_mem h.has
  have : i ∈ firstsL gs a := List.mem_filter.mpr ⟨List.mem_range.mpr hi, decide_eq_true (by rw [List.getD_eq_getElem?_getD, List.getElem?_eq_getElem hi]; exact e)⟩
  exact List.length_pos_of_mem this
theorem Kn.mle (h : Kn gs hands a b) : (firstsL gs a).length ≤ hands * a := by
  have := h.share
  have h2 : (firstsL gs a).length * b ≤ hands * a * b := by omega
  exact Nat.le_of_mul_le_mul_right h2 (by have := h.ab; omega)
theorem Kn.nle (h : Kn gs hands a b) : (othersL gs a).length ≤ hands * b := by
  have := h.share
  have e : hands * a * b = hands * b * a := by rw [Nat.mul_assoc, Nat.mul_comm a b, ← Nat.mul_assoc]
  rw [e] at this
  have h2 : (othersL gs a).length * a ≤ hands * b * a := by omega
  exact Nat.le_of_mul_le_mul_right h2 h.a1
theorem firsts_le (gs : List Nat) (a : Nat) : (firstsL gs a).length ≤ gs.length := by
  have := List.length_filter_le (fun i => decide (gs.getD i default = a)) (List.range gs.length)
  rwa [List.length_range] at this
theorem others_le (gs : List Nat) (a : Nat) : (othersL gs a).length ≤ gs.length := by
  have := List.length_filter_le (fun i => !decide (gs.getD i default = a)) (List.range gs.length)
  rwa [List.length_range] at this
/-! ### turns -/
theorem ahd_mono {m a d : Nat} : ahd m a d ≤ ahd m a (d + 1) := by
  unfold ahd
  exact Nat.div_le_div_right (Nat.mul_le_mul_right _ (by omega))
theorem ahd_add {m a d : Nat} (ha : 1 ≤ a) : ahd m a (d + a) = ahd m a d + m := by
  unfold ahd
  rw [Nat.add_mul, Nat.add_mul_div_left _ _ ha]
theorem ahd_step {m a d k : Nat} (ha : 1 ≤ a) (hm : m ≤ k * a) : ahd m a (d + 1) ≤ ahd m a d + k := by
  unfold ahd
  rw [Nat.add_mul, Nat.one_mul]
  have : (d * m + m) / a ≤ (d * m + k * a) / a := Nat.div_le_div_right (by omega)
  rwa [Nat.add_mul_div_right _ _ ha] at this
theorem ahd_le {m a d k : Nat} (ha : 1 ≤ a) (hm : m ≤ k * a) : ahd m a d ≤ k * d := by
  unfold ahd
  have : d * m ≤ k * d * a := by
    have := Nat.mul_le_mul_left d hm
    have e : d * (k * a) = k * d * a := by rw [← Nat.mul_assoc, Nat.mul_comm d k]
    omega
  exact Nat.le_trans (Nat.div_le_div_right this) (by rw [Nat.mul_div_cancel _ ha]; exact Nat.le_refl _)
theorem find_day {f : Nat → Nat} {d t : Nat} : ∀ k, f d ≤ t → t < f (d + k) → ∃ e, d ≤ e ∧ e < d + k ∧ f e ≤ t ∧ t < f (e + 1)
  | 0, h1, h2 => by rw [Nat.add_zero] at h2; omega
  | k + 1, h1, h2 => by
    rcases Nat.lt_or_ge t (f (d + k)) with h | h
    · obtain ⟨e, a, b, c⟩ := find_day k h1 h
      exact ⟨e, a, by omega, c⟩
    · exact ⟨d + k, by omega, by omega, h, h2⟩
theorem find_turn {x m j : Nat} (h : j < m) : ∃ k, k < m ∧ (x + k) % m = j := by
  have h0 := Nat.div_add_mod x m
  have h1 := Nat.mod_lt x (show m > 0 by omega)
  rcases Nat.lt_or_ge j (x % m) with q | q
  · refine ⟨j + m - x % m, by omega, ?_⟩
    have : x + (j + m - x % m) = j + m * (x / m + 1) := by rw [Nat.mul_add, Nat.mul_one]; omega
    rw [this, Nat.add_mul_mod_self_left, Nat.mod_eq_of_lt h]
  · refine ⟨j - x % m, by omega, ?_⟩
    have : x + (j - x % m) = j + m * (x / m) := by omega
    rw [this, Nat.add_mul_mod_self_left, Nat.mod_eq_of_lt h]
theorem mem_turns {c : List Nat} {x k t j : Nat} (h : t < k) (hj : (x + t) % c.length = j) : c.getD j default ∈ turnsL c x k := List.mem_map.mpr ⟨t, List.mem_range.mpr h, by rw [hj]⟩
theorem lotU_len (h : Kn gs hands a b) (day : Nat) : (lotU gs hands a day).length ≤ hands := by
  unfold lotU
  rw [List.length_append, turnsL_len, turnsL_len]
  have := ahd_step (d := day) h.a1 h.mle
  omega
theorem lotK_len (h : Kn gs hands a b) (day : Nat) : (lotK gs hands a day).length ≤ hands := by
  unfold lotK
  rw [(srt_perm _).length_eq]
  exact lotU_len h day
theorem mem_getD {l : List Nat} {c : Nat} (h : c ∈ l) : ∃ j, j < l.length ∧ l.getD j default = c := by
  obtain ⟨j, hj, e⟩ := List.getElem_of_mem h
  exact ⟨j, hj, by rw [List.getD_eq_getElem?_getD, List.getElem?_eq_getElem hj]; exact e⟩
theorem first_comes (h : Kn gs hands a b) {c : Nat} (hc : c ∈ firstsL gs a) (d : Nat) : ∃ e, d ≤ e ∧ e < d + a ∧ c ∈ lotK gs hands a e := by
  obtain ⟨j, hj, rfl⟩ := mem_getD hc
  obtain ⟨k, hk, hkj⟩ := find_turn (x := ahd (firstsL gs a).length a d) hj
  obtain ⟨e, e1, e2, e3, e4⟩ := find_day (f := ahd (firstsL gs a).length a) (d := d) (t := ahd (firstsL gs a).length a d + k) a (by omega) (by rw [ahd_add h.a1]; omega)
  refine ⟨e, e1, e2, mem_srt.mpr (List.mem_append_left _ ?_)⟩
  refine mem_turns (t := ahd (firstsL gs a).length a d + k - ahd (firstsL gs a).length a e) (by omega) ?_
  rw [← hkj]
  congr 1
  omega
theorem other_comes (h : Kn gs hands a b) {c : Nat} (hc : c ∈ othersL gs a) (d : Nat) : ∃ e, d ≤ e ∧ e < d + b ∧ c ∈ lotK gs hands a e := by
  have hs := h.share
  have a1 := h.a1
  have nle := h.nle
  have mle := h.mle
  obtain ⟨j, hj, hje⟩ := mem_getD hc
  have hall : ∀ d, ahd (firstsL gs a).length a d ≤ hands * d := fun d => ahd_le a1 mle
  have hstep : ∀ d, ahd (firstsL gs a).length a (d + 1) ≤ ahd (firstsL gs a).length a d + hands := fun d => ahd_step a1 mle
  have hmon : ∀ d, ahd (firstsL gs a).length a d ≤ ahd (firstsL gs a).length a (d + 1) := fun d => ahd_mono
  have hwin : ahd (firstsL gs a).length a (d + b) ≤ ahd (firstsL gs a).length a d + (hands * b - (othersL gs a).length) := by
    unfold ahd
    rw [Nat.add_mul]
    have e : hands * a * b = hands * b * a := by rw [Nat.mul_assoc, Nat.mul_comm a b, ← Nat.mul_assoc]
    have h2 : b * (firstsL gs a).length ≤ (hands * b - (othersL gs a).length) * a := by
      rw [Nat.sub_mul, Nat.mul_comm b]
      omega
    have : (d * (firstsL gs a).length + b * (firstsL gs a).length) / a ≤ (d * (firstsL gs a).length + (hands * b - (othersL gs a).length) * a) / a := Nat.div_le_div_right (by omega)
    rwa [Nat.add_mul_div_right _ _ a1] at this
  have hout : ∀ e, lotK gs hands a e = srt (turnsL (firstsL gs a) (ahd (firstsL gs a).length a e) (ahd (firstsL gs a).length a (e + 1) - ahd (firstsL gs a).length a e) ++
    turnsL (othersL gs a) (hands * e - ahd (firstsL gs a).length a e) (min (hands - (ahd (firstsL gs a).length a (e + 1) - ahd (firstsL gs a).length a e)) (othersL gs a).length)) := fun e => rfl
  generalize ahd (firstsL gs a).length a = f at hall hstep hmon hwin hout
  generalize (firstsL gs a).length = m at *
  obtain ⟨k, hk, hkj⟩ := find_turn (x := hands * d - f d) hj
  have hg : ∀ e, hands * (e + 1) - f (e + 1) = hands * e - f e + (hands - (f (e + 1) - f e)) := fun e => by
    have := hall e
    have := hall (e + 1)
    have := hstep e
    have := hmon e
    rw [Nat.mul_add, Nat.mul_one] at *
    omega
  have hbd : hands * d - f d + (othersL gs a).length ≤ hands * (d + b) - f (d + b) := by
    have := hall d
    have := hall (d + b)
    rw [Nat.mul_add] at *
    omega
  obtain ⟨e, e1, e2, e3, e4⟩ := find_day (f := fun d => hands * d - f d) (d := d) (t := hands * d - f d + k) b (by omega) (by show _ < hands * (d + b) - f (d + b); omega)
  rw [hg] at e4
  refine ⟨e, e1, e2, ?_⟩
  rw [hout e, mem_srt, ← hje]
  refine List.mem_append_right _ ?_
  rcases Nat.lt_or_ge (hands - (f (e + 1) - f e)) (othersL gs a).length with q | q
  · refine mem_turns (t := hands * d - f d + k - (hands * e - f e)) (by omega) ?_
    rw [← hkj]
    congr 1
    omega
  · obtain ⟨k2, hk2, hk2j⟩ := find_turn (x := hands * e - f e) hj
    exact mem_turns (t := k2) (by omega) hk2j
/-- every chore comes within its gap -/
theorem comes (h : Kn gs hands a b) {c : Nat} (hc : c < gs.length) (d : Nat) : ∃ e, d ≤ e ∧ e < d + gs.getD c default ∧ c ∈ lotK gs hands a e := by
  by_cases q : gs.getD c default = a
  · rw [q]
    exact first_comes h (List.mem_filter.mpr ⟨List.mem_range.mpr hc, decide_eq_true q⟩) d
  · have : gs.getD c default = b := (h.mem _ (getD_mem hc)).resolve_left q
    rw [this]
    exact other_comes h (List.mem_filter.mpr ⟨List.mem_range.mpr hc, by rw [decide_eq_false q]; rfl⟩) d
end
/-! ### how many there are of each -/
theorem idx_count (gs : List Nat) (p : Nat → Bool) : ((List.range gs.length).filter fun i => p (gs.getD i default)).length = (gs.filter p).length := by
  have e : gs = (List.range gs.length).map fun i => gs.getD i default := by
    refine List.ext_getElem (by simp) fun i h1 h2 => ?_
    simp [h1]
  conv => rhs; rw [e, List.filter_map, List.length_map]
  rfl
theorem firsts_count (gs : List Nat) (a : Nat) : (firstsL gs a).length = (gs.filter fun g => decide (g = a)).length := idx_count gs fun g => decide (g = a)
theorem others_count (gs : List Nat) (a : Nat) : (othersL gs a).length = (gs.filter fun g => !decide (g = a)).length := idx_count gs fun g => !decide (g = a)
theorem filter_rep {α : Type} (p : α → Bool) (n : Nat) (x : α) : ((List.replicate n x).filter p).length = if p x then n else 0 := by
  cases h : p x
  · simp [List.filter_replicate, h]
  · simp [List.filter_replicate, h]
/-- the gaps that the law draws -/
theorem kd_of {gs : List Nat} {hands a b m n : Nat} (hp : gs.Perm (List.replicate m a ++ List.replicate n b)) (h1 : 1 ≤ hands) (h3 : hands ≤ 3) (a1 : 1 ≤ a) (ab : a ≤ b) (b99 : b ≤ 99) (hmn : 1 ≤ m + n) (hml : m ≤ 12) (hnl : n ≤ 12) (hm : m ≤ hands * a) (hn : n * a ≤ (hands * a - m) * b) : ∃ a' b', Kn gs hands a' b' := by
  have hlen : gs.length ≤ 24 := by rw [hp.length_eq]; simp; omega
  have hmem : ∀ g ∈ gs, g = a ∧ 0 < m ∨ g = b ∧ 0 < n := fun g hg => by
    rcases List.mem_append.mp (hp.mem_iff.mp hg) with h | h
    · obtain ⟨q1, q2⟩ := List.mem_replicate.mp h; exact .inl ⟨q2, by omega⟩
    · obtain ⟨q1, q2⟩ := List.mem_replicate.mp h; exact .inr ⟨q2, by omega⟩
  have fc : ∀ c, (firstsL gs c).length = (if a = c then m else 0) + (if b = c then n else 0) := fun c => by
    rw [firsts_count, (hp.filter _).length_eq, List.filter_append, List.length_append, filter_rep, filter_rep]
    simp
  have oc : ∀ c, (othersL gs c).length = (if a = c then 0 else m) + (if b = c then 0 else n) := fun c => by
    rw [others_count, (hp.filter _).length_eq, List.filter_append, List.length_append, filter_rep, filter_rep]
    by_cases q1 : a = c <;> by_cases q2 : b = c <;> simp [q1, q2]
  rw [Nat.sub_mul] at hn
  have hmb : m * b ≤ hands * a * b := Nat.mul_le_mul_right _ hm
  by_cases q : a = b
  · subst q
    refine ⟨a, a + 1, hlen, h1, h3, a1, by omega, by omega, fun g hg => (hmem g hg).elim (fun h => .inl h.1) fun h => .inl h.1, ?_, ?_⟩
    · refine hp.mem_iff.mpr ?_
      rcases Nat.eq_zero_or_pos m with z | z
      · exact List.mem_append_right _ (List.mem_replicate.mpr ⟨by omega, rfl⟩)
      · exact List.mem_append_left _ (List.mem_replicate.mpr ⟨by omega, rfl⟩)
    · rw [fc, oc, if_pos rfl, if_pos rfl, if_pos rfl, if_pos rfl]
      have h4 : m + n ≤ hands * a := by
        have : (m + n) * a ≤ hands * a * a := by rw [Nat.add_mul]; omega
        exact Nat.le_of_mul_le_mul_right this a1
      have := Nat.mul_le_mul_right (a + 1) h4
      omega
  · by_cases q0 : m = 0
    · subst q0
      refine ⟨b, b + 1, hlen, h1, h3, by omega, by omega, by omega, fun g hg => (hmem g hg).elim (fun h => by omega) fun h => .inl h.1, ?_, ?_⟩
      · exact hp.mem_iff.mpr (List.mem_append_right _ (List.mem_replicate.mpr ⟨by omega, rfl⟩))
      · rw [fc, oc, if_neg q, if_pos rfl, if_pos rfl]
        have h4 : n ≤ hands * b := by
          have e : hands * a * b = hands * b * a := by rw [Nat.mul_assoc, Nat.mul_comm a b, ← Nat.mul_assoc]
          have : n * a ≤ hands * b * a := by omega
          exact Nat.le_of_mul_le_mul_right this a1
        have := Nat.mul_le_mul_right (b + 1) h4
        simp only [Nat.zero_add, Nat.add_zero, Nat.zero_mul]
        exact this
    · refine ⟨a, b, hlen, h1, h3, a1, by omega, by omega, fun g hg => (hmem g hg).elim (fun h => .inl h.1) fun h => .inr h.1, ?_, ?_⟩
      · exact hp.mem_iff.mpr (List.mem_append_left _ (List.mem_replicate.mpr ⟨q0, rfl⟩))
      · rw [fc, oc, if_pos rfl, if_pos rfl, if_neg (fun e => q e.symm), if_neg (fun e => q e.symm)]
        simp only [Nat.zero_add, Nat.add_zero]
        omega
/-! ### the sum of the shares -/
theorem share_step {t c x w ab k : Nat} (h : t * ab = c * w) (hx : k * x = ab) : (t * x + c) * ab = c * x * (w + k) := by
  have e1 : (t * x + c) * ab = x * (t * ab) + c * ab := by rw [Nat.add_mul, Nat.mul_comm t x, Nat.mul_assoc]
  have e2 : c * x * (w + k) = x * (c * w) + c * (k * x) := by rw [Nat.mul_add, Nat.mul_assoc, Nat.mul_left_comm c x w, Nat.mul_comm k x, Nat.mul_assoc]
  rw [e1, e2, h, hx]
/-- as the shares are summed: t over c is w over a b -/
def wgt (a b : Nat) (l : List Nat) : Nat := (l.filter fun g => decide (g = a)).length * b + (l.filter fun g => !decide (g = a)).length * a
theorem wgt_one (a b g : Nat) (l : List Nat) : wgt a b (l ++ [g]) = wgt a b l + if g = a then b else a := by
  unfold wgt
  rw [List.filter_append, List.filter_append, List.length_append, List.length_append, Nat.add_mul, Nat.add_mul]
  by_cases q : g = a
  · simp [q]; omega
  · simp [q]; omega
theorem even_law (x q : Int) (hq : 0 < q) : 0 - (0 - x) / q - 1 = (x - 1) / q := by
  have h1 := Int.mul_ediv_add_emod (x - 1) q
  have h2 := Int.emod_nonneg (x - 1) (show q ≠ 0 by omega)
  have h3 := Int.emod_lt_of_pos (x - 1) hq
  have e : 0 - x = (q - 1 - (x - 1) % q) + q * (-((x - 1) / q + 1)) := by
    rw [Int.mul_neg, Int.mul_add, Int.mul_one]
    omega
  rw [e, Int.add_mul_ediv_left _ _ (show q ≠ 0 by omega), Int.ediv_eq_zero_of_lt (by omega) (by omega)]
  omega
end Nog

set_option Elab.async false
set_option linter.all false
set_option maxRecDepth 100000
set_option maxHeartbeats 4000000
/-! k99: two kinds of gaps, the program -/
namespace Nog
theorem dedup_in : ∀ (xs acc : List D), acc.Nodup → (dedup acc xs).Nodup ∧ ∀ z ∈ dedup acc xs, z ∈ acc ∨ z ∈ xs
  | [], acc, h => ⟨h, fun z hz => .inl hz⟩
  | x :: xs, acc, h => by
    rw [dedup]
    split
    · obtain ⟨h1, h2⟩ := dedup_in xs acc h
      exact ⟨h1, fun z hz => (h2 z hz).imp id (List.mem_cons_of_mem _)⟩
    · rename_i q
      have hx : x ∉ acc := fun hx => q (List.any_eq_true.mpr ⟨x, hx, decide_eq_true rfl⟩)
      obtain ⟨h1, h2⟩ := dedup_in xs (acc ++ [x]) (List.nodup_append.mpr ⟨h, by simp, fun a ha b hb e => by rw [List.mem_singleton] at hb; subst hb; subst e; exact hx ha⟩)
      refine ⟨h1, fun z hz => ?_⟩
      rcases h2 z hz with h | h
      · rcases List.mem_append.mp h with h | h
        · exact .inl h
        · rw [List.mem_singleton] at h; subst h; exact .inr List.mem_cons_self
      · exact .inr (List.mem_cons_of_mem _ h)
theorem lset_two {gs : List Nat} {a b : Nat} (hl : gs.length ≤ 1000) (h : ∀ g ∈ gs, g = a ∨ g = b) : ∃ k : Nat, lsetP (.val (lotD gs)) = some k ∧ k ≤ 2 := by
  obtain ⟨h1, h2⟩ := dedup_in (gs.map nD) [] List.nodup_nil
  refine ⟨(dedup [] (gs.map nD)).length, ?_, ?_⟩
  · have e1 : (gs.map nD).all isInt = true := by
      rw [List.all_eq_true]
      intro x hx
      obtain ⟨y, _, rfl⟩ := List.mem_map.mp hx
      rfl
    have e2 : decide ((gs.map nD).length ≤ 1000) = true := decide_eq_true (by rw [List.length_map]; exact hl)
    show (if (gs.map nD).all isInt && decide ((gs.map nD).length ≤ 1000) then some (dedup [] (gs.map nD)).length else none) = _
    rw [e1, e2]; rfl
  · have := List.Nodup.length_le_of_subset (l₂ := [nD a, nD b]) h1 fun z hz => by
      rcases h2 z hz with h0 | h0
      · cases h0
      · obtain ⟨y, hy, rfl⟩ := List.mem_map.mp h0
        rcases h y hy with rfl | rfl <;> simp
    exact this
theorem r_lset {C : Call} {σ : Env} {S S1 : Sto} {a : E} {p : Pv} {k : Nat} (h : ev C a σ S = .ok p S1) (h2 : lsetP p = some k) : ev C (.lset a) σ S = .ok (.val (nD k)) S1 := by rw [ev, h, bind_ok, h2]
theorem minD_nat2 : ∀ (l : List Nat) (x : Nat), minD (nD x) (l.map nD) = nD (l.foldl min x)
  | [], x => rfl
  | y :: l, x => by
    rw [List.map_cons, minD, List.foldl_cons, ← minD_nat2 l (min x y)]
    congr 1
    show (if D.ltb (.int y) (.int x) then nD y else nD x) = _
    rw [D.ltb]
    by_cases h : (y : Int) < (x : Int)
    · rw [decide_eq_true h, if_pos rfl, Nat.min_eq_right (by omega)]
    · rw [decide_eq_false h, if_neg (by decide), Nat.min_eq_left (by omega)]
theorem foldl_min_eq {a : Nat} : ∀ (l : List Nat) (x : Nat), (∀ y ∈ l, a ≤ y) → a ≤ x → (x = a ∨ a ∈ l) → l.foldl min x = a
  | [], x, _, _, h => by simpa using h
  | y :: l, x, h1, h2, h3 => by
    rw [List.foldl_cons]
    have hy := h1 y List.mem_cons_self
    refine foldl_min_eq l _ (fun z hz => h1 z (List.mem_cons_of_mem _ hz)) (by omega) ?_
    rcases h3 with h | h
    · left; omega
    · rcases List.mem_cons.mp h with h | h
      · left; omega
      · exact .inr h
theorem b_minT {S : Sto} {gs : List Nat} {a : Nat} (h : a ∈ gs) (h2 : ∀ g ∈ gs, a ≤ g) : bi1 .min S (.val (lotD gs)) = .ok (.val (nD a)) S := by
  cases gs with
  | nil => cases h
  | cons x l =>
    have ho := okMax_nat (x :: l)
    simp only [List.map_cons] at ho
    show (match (Pv.val (lotD (x :: l))).seqI S with
    | some (x :: xs) => if okMax (x :: xs) then (Rs.ok (Pv.val (minD x xs)) S) else .no
    | _ => .no) = _
    simp only [sq_tup, List.map_cons, ho, if_true]
    rw [minD_nat2, foldl_min_eq l x (fun y hy => h2 y (List.mem_cons_of_mem _ hy)) (h2 x List.mem_cons_self) ((List.mem_cons.mp h).imp (fun e => e.symm) id)]
theorem op_addRR {S : Sto} {l k : Nat} {xs ys : List D} (h : S[l]? = some (.lst xs)) (h2 : S[k]? = some (.lst ys)) (hf : (xs ++ ys).length ≤ lim) : opB .add S (.val (.ref l)) (.val (.ref k)) = .ok (.fresh (xs ++ ys)) S := by
  have e : fits (xs ++ ys) = true := by simpa [fits] using hf
  simp only [opB, Pv.mutItems, h, h2, e, if_true]
theorem retG0 {d : D} {S : Sto} : RetG S d (.rt d S) := ⟨[], by rw [List.append_nil]; rfl⟩
def doneL (R : Row) (c : Nat) : List Nat := (List.range R.length).filter fun i => decide (c ∈ R.getD i default)
theorem kn_low {gs : List Nat} {hands a b : Nat} (h : Kn gs hands a b) : ∀ g ∈ gs, a ≤ g := fun g hg => by
  have := h.ab
  rcases h.mem g hg with rfl | rfl <;> omega
namespace T
theorem fraction_ok (m : Nat) {t b : Nat} (h1 : 1 ≤ b) (h2 : b < 2 ^ 1000) (S : Sto) : callN Pg (m + 1) i_fraction [nD t, nD b] S = .ok (prD (t / Nat.gcd t b, b / Nat.gcd t b)) S := by
  refine callO (f := f_fraction.fn) rfl rfl rfl rfl (good_tup (k := 0) (goodL_cons (good_int _) (goodL_cons (good_int _) goodL_nil))).1 ?_
  show Wp _ b_fraction [some (nD t), some (nD b), none] [] _
  have g0 : 0 < Nat.gcd t b := Nat.gcd_pos_of_pos_right _ h1
  have g1 : Nat.gcd t b ≤ b := Nat.le_of_dvd h1 (Nat.gcd_dvd_right t b)
  refine w_asgV (r_b2 (ev_var rfl) (ev_var rfl) (b_gcdN _ _)) rfl ?_
  have op : ∀ (x : Nat) (S : Sto), opB .fdiv S (.val (nD x)) (.val (nD (Nat.gcd t b))) = .ok (.val (nD (x / Nat.gcd t b))) S := fun x S => by
    rw [op_fdivI (by omega) (Nat.lt_trans (log_of (k := 1000) (by rw [Int.natAbs_natCast]; omega) (by decide)) (by decide))]; rfl
  exact w_retV (r_tup (r_consV (r_bin (ev_var rfl) (ev_var rfl) (op _ _)) (r_consV (r_bin (ev_var rfl) (ev_var rfl) (op _ _)) r_nil))) retD
section
variable {gs : List Nat} {hands a b : Nat}
theorem shares_ok (m : Nat) (h : Kn gs hands a b) (S : Sto) : ∃ t c : Nat, callN Pg (m + 2) i_sum_of_shares [lotD gs] S = .ok (prD (t, c)) S ∧ t ≤ hands * c := by
  have key : ∃ d, callN Pg (m + 2) i_sum_of_shares [lotD gs] S = .ok d S ∧ ∃ t c : Nat, d = prD (t, c) ∧ t ≤ hands * c := by
    refine callOE (f := f_sum_of_shares.fn) rfl rfl rfl (goodL_cons (good_lot gs (k := 0)) goodL_nil).1 (fun d ⟨t, c, h, _⟩ => by subst h; exact (good_tup (k := 0) (goodL_cons (good_int _) (goodL_cons (good_int _) goodL_nil))).1) ?_
    show Wp _ b_sum_of_shares [some (lotD gs), none, none, none] [] _
    refine w_asgV (r_tup (r_consV ev_lit (r_consV ev_lit r_nil))) rfl ?_
    refine w_fr (as := gs) (enc := nD) (fun pre σ S => ∃ (t c : Nat) (z : Option D), t * (a * b) = c * wgt a b pre ∧ 1 ≤ c ∧ c ≤ 100 ^ pre.length ∧ σ = [some (lotD gs), z, some (nD t), some (nD c)] ∧ S = [])
      (ev_var rfl) rfl rfl rfl ⟨0, 1, none, by simp [wgt], by decide, by decide, rfl, rfl⟩ (fun _ _ _ _ => rfl) (fun pre g post σ S e ⟨t, c, z, hw, hc1, hc2, hσ, hS⟩ => ?_) (fun σ S ⟨t, c, z, hw, hc1, hc2, hσ, hS⟩ => ?_)
    · subst hσ hS
      refine ⟨_, rfl, ?_⟩
      have hpre : pre.length < 24 := by have := congrArg List.length e; have := h.len; simp at *; omega
      have hgm := h.mem g (by rw [e]; simp)
      have a1 := h.a1
      have ab := h.ab
      have b1 := h.b100
      have g1 : 1 ≤ g ∧ g ≤ 100 := by rcases hgm with rfl | rfl <;> omega
      have cb : c * g ≤ 100 ^ (pre.length + 1) := by rw [Nat.pow_succ]; exact Nat.mul_le_mul hc2 g1.2
      have cb2 : 100 ^ (pre.length + 1) ≤ 100 ^ 24 := Nat.pow_le_pow_right (by decide) (by omega)
      have cb3 : 100 ^ 24 < 2 ^ 1000 := by decide
      have cg1 : 1 ≤ c * g := Nat.mul_pos hc1 g1.1
      refine w_asgV (r_call (r_consV (r_bin (r_bin (ev_var rfl) (ev_var rfl) (op_mulN (by omega))) (ev_var rfl) op_addN) (r_consV (r_bin (ev_var rfl) (ev_var rfl) (op_mulN (by omega))) r_nil)) (fraction_ok m (t := t * g + c) (b := c * g) cg1 (by omega) _)) rfl (w_nil ⟨_, _, _, ?_, ?_, ?_, rfl, rfl⟩)
      · have hst := share_step (t := t) (c := c) (x := g) (w := wgt a b pre) (ab := a * b) (k := if g = a then b else a) hw (by
          rcases hgm with rfl | rfl
          · rw [if_pos rfl, Nat.mul_comm]
          · rw [if_neg (by omega)])
        rw [wgt_one]
        have g0 : 0 < Nat.gcd (t * g + c) (c * g) := Nat.gcd_pos_of_pos_right _ cg1
        have e1 : ∀ y, Nat.gcd (t * g + c) (c * g) * ((t * g + c) / Nat.gcd (t * g + c) (c * g) * y) = (t * g + c) * y := fun y => by rw [← Nat.mul_assoc, Nat.mul_div_cancel' (Nat.gcd_dvd_left _ _)]
        have e2 : ∀ y, Nat.gcd (t * g + c) (c * g) * (c * g / Nat.gcd (t * g + c) (c * g) * y) = c * g * y := fun y => by rw [← Nat.mul_assoc, Nat.mul_div_cancel' (Nat.gcd_dvd_right _ _)]
        exact Nat.eq_of_mul_eq_mul_left g0 ((e1 _).trans (hst.trans (e2 _).symm))
      · exact Nat.div_pos (Nat.le_of_dvd cg1 (Nat.gcd_dvd_right _ _)) (Nat.gcd_pos_of_pos_right _ cg1)
      · rw [List.length_append]
        exact Nat.le_trans (Nat.div_le_self _ _) cb
    · subst hσ hS
      refine w_retV (r_tup (r_consV (ev_var rfl) (r_consV (ev_var rfl) r_nil))) ⟨_, _, rfl, t, c, rfl, ?_⟩
      have hs := h.share
      rw [firsts_count, others_count] at hs
      have hs : wgt a b gs ≤ hands * a * b := hs
      have : t * (a * b) ≤ hands * c * (a * b) := by
        rw [hw]
        have := Nat.mul_le_mul_left c hs
        have e : c * (hands * a * b) = hands * c * (a * b) := by rw [Nat.mul_assoc hands a b, ← Nat.mul_assoc, Nat.mul_comm c hands]
        omega
      exact Nat.le_of_mul_le_mul_right this (Nat.mul_pos h.a1 (by have := h.ab; omega))
  obtain ⟨d, h1, t, c, rfl, h2⟩ := key
  exact ⟨t, c, h1, h2⟩
theorem full_ok (m : Nat) (h : Kn gs hands a b) (S : Sto) : callN Pg (m + 3) i_is_full [lotD gs, nD hands] S = .ok (.bl false) S := by
  refine callO (f := f_is_full.fn) rfl rfl rfl (goodL_cons (good_lot gs (k := 0)) (goodL_cons (good_int _) goodL_nil)).1 rfl ?_
  show Wp _ b_is_full [some (lotD gs), some (nD hands), none, none] [] _
  obtain ⟨t, c, e, ht⟩ := shares_ok m h []
  have := h.h3
  refine w_asgV (d := .tup [nD t, nD c]) (r_call (r_consV (ev_var rfl) r_nil) e) rfl ?_
  refine w_retV (r_cmp (ev_var rfl) (r_bin (ev_var rfl) (ev_var rfl) (op_mulN (by omega))) (by rw [cm_gtN])) ?_
  rw [decide_eq_false (by omega)]
  exact retD
theorem check_ok (m : Nat) (h : Kn gs hands a b) (S : Sto) : callN Pg (m + 4) i_check_kinds [lotD gs, nD hands] S = .ok .non S := by
  refine callO (f := f_check_kinds.fn) rfl rfl rfl (goodL_cons (good_lot gs (k := 0)) (goodL_cons (good_int _) goodL_nil)).1 rfl ?_
  show Wp _ b_check_kinds [some (lotD gs), some (nD hands)] [] _
  obtain ⟨k, e, hk⟩ := lset_two (gs := gs) (a := a) (b := b) (by have := h.len; omega) h.mem
  refine w_iff (t := false) (r_cmp (r_lset (ev_var rfl) e) ev_lit ((cm_gtN (b := 2)).trans (by rw [decide_eq_false (by omega)]))) rfl (fun h => by cases h) (fun _ => w_end ?_)
  exact w_iff (t := false) (r_call (r_consV (ev_var rfl) (r_consV (ev_var rfl) r_nil)) (full_ok m h _)) rfl (fun h => by cases h) (fun _ => w_end (w_nil retDn))
theorem both_ok (m : Nat) (h : Kn gs hands a b) : callN Pg (m + 1) i_both_kinds [lotD gs] [] = .ok (.tup [.ref 0, .ref 1]) [.lst ((firstsL gs a).map nD), .lst ((othersL gs a).map nD)] := by
  refine callR (P := Pg) (m := m) (k := i_both_kinds) (as := [lotD gs]) (f := f_both_kinds.fn) rfl rfl rfl (Q := fun r => r = .ok (.tup [.ref 0, .ref 1]) [.lst ((firstsL gs a).map nD), .lst ((othersL gs a).map nD)]) ?_
  show Wp _ b_both_kinds [some (lotD gs), none, none, none, none] [] _
  refine w_asgV (r_b1 (ev_var rfl) (b_minT h.has (kn_low h))) rfl ?_
  have h1 := r_lc (C := callN Pg m) (σ := [some (lotD gs), some (nD a), none, none, none]) (S := []) (own := [3, 4]) (elt := .var 3) (tg := .tp [3, 4]) (ifs := [(.cmp .eq (.var 4) (.var 1))]) (as := List.range gs.length) (fun i => decide (gs.getD i default = a)) nD
    (r_enu (ev_var (i := 0) rfl) (sq_tup ..)) (it_its ..) (enum0 (f := nD) gs) rfl rfl fun i hi => lcStep_if rfl (r_if1 (r_cmp (ev_var rfl) (ev_var rfl) cm_eqN) rfl) fun _ => ev_var rfl
  refine w_asg h1 rfl rfl ?_
  have h2 := r_lc (C := callN Pg m) (σ := [some (lotD gs), some (nD a), some (.ref 0), none, none]) (S := [.lst ((firstsL gs a).map nD)]) (own := [3, 4]) (elt := .var 3) (tg := .tp [3, 4]) (ifs := [(.cmp .ne (.var 4) (.var 1))]) (as := List.range gs.length) (fun i => !decide (gs.getD i default = a)) nD
    (r_enu (ev_var (i := 0) rfl) (sq_tup ..)) (it_its ..) (enum0 (f := nD) gs) rfl rfl fun i hi => lcStep_if rfl (r_if1 (r_cmp (ev_var rfl) (ev_var rfl) cm_neN) rfl) fun _ => ev_var rfl
  exact w_retV (r_tup (r_consV (ev_var rfl) (r_cons h2 rfl r_nil))) rfl
theorem byturns_ok (m : Nat) {c : List Nat} {S : Sto} {l : Nat} (hl : S[l]? = some (.lst (c.map nD))) (hc : 0 < c.length) (bg k : Nat) (hk : min k c.length ≤ 1000) : callN Pg (m + 1) i_by_turns [.ref l, nD bg, nD k] S = .ok (.ref S.length) (S ++ [.lst ((turnsL c bg (min k c.length)).map nD)]) := by
  refine callR (P := Pg) (m := m) (k := i_by_turns) (as := [.ref l, nD bg, nD k]) (f := f_by_turns.fn) rfl rfl rfl (Q := fun r => r = .ok (.ref S.length) (S ++ [.lst ((turnsL c bg (min k c.length)).map nD)])) ?_
  show Wp _ b_by_turns [some (.ref l), some (nD bg), some (nD k), none] S _
  have len : bi1 .len S (.val (.ref l)) = .ok (.val (nD c.length)) S := by rw [b_lenR hl, List.length_map]
  have h1 := r_lcm (C := callN Pg m) (σ := [some (.ref l), some (nD bg), some (nD k), none]) (S := S) (own := [3]) (tg := .nm 3) (elt := .ix (.var 0) (.bin .mod (.bin .add (.var 1) (.var 3)) (.b1 .len (.var 0)))) (as := List.range (min k c.length)) (enc := nD) (fun t => nD (c.getD ((bg + t) % c.length) default))
    (r_rg1 (r_b2 (ev_var (i := 2) rfl) (r_b1 (ev_var (i := 0) rfl) len) (b_min2N _ _)) (by omega) (by omega)) (it_rng ..) (rngL0 _) rfl rfl fun t ht => lcStep_all rfl (r_ix (ev_var rfl) (r_bin (r_bin (ev_var rfl) (ev_var rfl) op_addN) (r_b1 (ev_var rfl) len) (op_modN hc)) (ix_ref hl (Nat.mod_lt _ hc)))
  refine w_ret h1 rfl ?_
  unfold turnsL
  rw [List.map_map]; rfl
theorem ahead_ok (m : Nat) {k d : Nat} (hk : k < 2 ^ 64) (hd : 1 ≤ d) (hd2 : d ≤ 1000000) (day : Nat) (S : Sto) : callN Pg (m + 1) i_things_ahead [nD k, nD d, nD day] S = .ok (nD (ahd k d day)) S := by
  refine callO (f := f_things_ahead.fn) rfl rfl rfl rfl rfl ?_
  show Wp _ b_things_ahead [some (nD k), some (nD d), some (nD day)] [] _
  exact w_retV (r_bin (r_bin (ev_var rfl) (ev_var rfl) (op_mulN (.inr hk))) (ev_var rfl) (op_fdivN hd hd2)) retD
theorem even_ok (m : Nat) {k d : Nat} (hk : k < 2 ^ 64) (hd : 1 ≤ d) (hd2 : d ≤ 1000000) (day : Nat) (S : Sto) : callN Pg (m + 2) i_even_number [nD k, nD d, nD day] S = .ok (nD (ahd k d (day + 1) - ahd k d day)) S := by
  refine callO (f := f_even_number.fn) rfl rfl rfl rfl rfl ?_
  show Wp _ b_even_number [some (nD k), some (nD d), some (nD day)] [] _
  exact w_retV (r_bin (r_call (r_consV (ev_var rfl) (r_consV (ev_var rfl) (r_consV (r_bin (ev_var rfl) ev_lit (op_addN (b := 1))) r_nil))) (ahead_ok m hk hd hd2 _ _)) (r_call (r_consV (ev_var rfl) (r_consV (ev_var rfl) (r_consV (ev_var rfl) r_nil))) (ahead_ok m hk hd hd2 _ _)) (op_subN ahd_mono)) retD
theorem evensum_ok (m : Nat) {k d : Nat} (hk : k < 2 ^ 64) (hd : 1 ≤ d) (hd2 : d ≤ 1000000) (day : Nat) (S : Sto) : callN Pg (m + 2) i_even_sum [nD k, nD d, .int 0, nD day] S = .ok (nD (ahd k d day)) S := by
  refine callO (f := f_even_sum.fn) rfl rfl rfl rfl rfl ?_
  show Wp _ b_even_sum [some (nD k), some (nD d), some (nD 0), some (nD day)] [] _
  have z : ahd k d 0 = 0 := by unfold ahd; simp
  have := r_bin (C := callN Pg (m + 1)) (o := .sub) (r_call (k := i_things_ahead) (r_consV (ev_var (σ := [some (nD k), some (nD d), some (nD 0), some (nD day)]) (S := []) (i := 0) rfl) (r_consV (ev_var (i := 1) rfl) (r_consV (ev_var (i := 3) rfl) r_nil))) (ahead_ok m hk hd hd2 _ _)) (r_call (r_consV (ev_var (i := 0) rfl) (r_consV (ev_var (i := 1) rfl) (r_consV (ev_var (i := 2) rfl) r_nil))) (ahead_ok m hk hd hd2 _ _)) (op_subN (show ahd k d 0 ≤ ahd k d day by omega))
  rw [z, Nat.sub_zero] at this
  exact w_retV this retD
theorem evenplace_ok (m : Nat) {k d n : Nat} (hk1 : 1 ≤ k) (hk : k ≤ 1000000) (hd2 : d ≤ 1000000) (S : Sto) : callN Pg (m + 1) i_even_place [nD k, nD d, nD n] S = .ok (.int ((((n : Int) + 1) * d - 1) / k)) S := by
  refine callO (f := f_even_place.fn) rfl rfl rfl rfl rfl ?_
  show Wp _ b_even_place [some (nD k), some (nD d), some (nD n)] [] _
  exact w_retV (r_bin (r_bin (r_bin (r_bin (ev_var rfl) ev_lit op_addI) (ev_var rfl) (op_mulI (mulOk_r2 (by omega)))) ev_lit op_subI) (ev_var rfl) (op_fdivI (by omega) (log_small hk))) retD
theorem kindsLot_ok (m : Nat) (h : Kn gs hands a b) (day : Nat) (S : Sto) : callN Pg (m + 5) i_two_kinds_lot [lotD gs, nD hands, nD day] S = .ok (lotD (lotK gs hands a day)) S := by
  refine callO (f := f_two_kinds_lot.fn) rfl rfl rfl (goodL_cons (good_lot gs (k := 0)) (goodL_cons (good_int _) (goodL_cons (good_int _) goodL_nil))).1 (good_lot _ (k := 0)).1 ?_
  show Wp _ b_two_kinds_lot [some (lotD gs), some (nD hands), some (nD day), none, none, none, none, none] [] _
  have hlen := h.len
  have h3 := h.h3
  have a1 := h.a1
  have ab := h.ab
  have b1 := h.b100
  have m1 := h.m1
  have fle := firsts_le gs a
  have ole := others_le gs a
  have st := ahd_step (d := day) (m := (firstsL gs a).length) (k := (firstsL gs a).length) a1 (Nat.le_mul_of_pos_right _ a1)
  have st2 := ahd_step (d := day) a1 h.mle
  have al := ahd_le (d := day) a1 h.mle
  have low := kn_low h
  refine w_ex (r_call (r_consV (ev_var rfl) (r_consV (ev_var rfl) r_nil)) (check_ok m h _)) ?_
  refine w_asgV (r_call (r_consV (ev_var rfl) r_nil) (both_ok (m + 3) h)) rfl ?_
  have lenF : ∀ S : Sto, S[0]? = some (.lst ((firstsL gs a).map nD)) → bi1 .len S (.val (.ref 0)) = .ok (.val (nD (firstsL gs a).length)) S := fun S hS => by rw [b_lenR hS, List.length_map]
  refine w_asgV (r_call (r_consV (r_b1 (ev_var rfl) (lenF _ rfl)) (r_consV (r_b1 (ev_var rfl) (b_minT h.has low)) (r_consV (ev_var rfl) r_nil))) (ahead_ok (m + 3) (by omega) a1 (by omega) _ _)) rfl ?_
  refine w_asgV (r_call (r_consV (r_b1 (ev_var rfl) (lenF _ rfl)) (r_consV (r_b1 (ev_var rfl) (b_minT h.has low)) (r_consV (ev_var rfl) r_nil))) (even_ok (m + 2) (by omega) a1 (by omega) _ _)) rfl ?_
  refine w_asgV (r_call (r_consV (ev_var rfl) (r_consV (ev_var rfl) (r_consV (ev_var rfl) r_nil))) (byturns_ok (m + 3) (c := firstsL gs a) (l := 0) rfl (by omega) _ _ (by omega))) rfl ?_
  have mn : min (ahd (firstsL gs a).length a (day + 1) - ahd (firstsL gs a).length a day) (firstsL gs a).length = ahd (firstsL gs a).length a (day + 1) - ahd (firstsL gs a).length a day := Nat.min_eq_left (by omega)
  rw [mn]
  have hU : lotU gs hands a day = turnsL (firstsL gs a) (ahd (firstsL gs a).length a day) (ahd (firstsL gs a).length a (day + 1) - ahd (firstsL gs a).length a day) ++
    turnsL (othersL gs a) (hands * day - ahd (firstsL gs a).length a day) (min (hands - (ahd (firstsL gs a).length a (day + 1) - ahd (firstsL gs a).length a day)) (othersL gs a).length) := rfl
  have hlU := lotU_len h day
  have hK : lotK gs hands a day = srt (lotU gs hands a day) := rfl
  rw [hK]
  generalize ahd (firstsL gs a).length a day = A at *
  generalize ahd (firstsL gs a).length a (day + 1) = B at *
  have fin : ∀ (σ : Env) (S : Sto) (r : Nat), σ[5]? = some (some (.ref r)) → S[r]? = some (.lst ((lotU gs hands a day).map nD)) → Wp (callN Pg (m + 4)) [.ret (.b1 .tuple (.b1 .sorted (.var 5)))] σ S (RetD (lotD (srt (lotU gs hands a day)))) := fun σ S r h1 h2 =>
    w_retV (r_b1 (r_b1 (ev_var h1) (b_sortR h2 (okSort_nat _))) (by rw [b_tupF, sort_nat])) retD
  have tl1 := turnsL_len (firstsL gs a) A (B - A)
  have tl2 := turnsL_len (othersL gs a) (hands * day - A) (min (hands - (B - A)) (othersL gs a).length)
  generalize turnsL (firstsL gs a) A (B - A) = T1 at *
  refine w_iff (t := decide (0 < (othersL gs a).length)) (r_cmp (r_b1 (ev_var rfl) ((b_lenR rfl).trans (by rw [List.length_map]))) ev_lit (cm_gtN (b := 0))) rfl (fun hn => ?_) (fun hn => w_end (fin _ _ 2 rfl ?_))
  · have hn2 : 0 < (othersL gs a).length := of_decide_eq_true hn
    refine w_asg (r_bin (ev_var rfl) (r_call (r_consV (ev_var rfl) (r_consV (r_bin (r_bin (ev_var rfl) (ev_var rfl) (op_mulN (by omega))) (ev_var rfl) (op_subN al)) (r_consV (r_bin (ev_var rfl) (ev_var rfl) (op_subN (by omega))) r_nil))) (byturns_ok (m + 3) (c := othersL gs a) (l := 1) rfl hn2 _ _ (by omega))) (op_addRR rfl rfl (by rw [List.length_append, List.length_map, List.length_map, tl1, tl2]; unfold lim; omega))) rfl rfl (w_end (fin _ _ 4 rfl ?_))
    rw [hU, List.map_append]; rfl
  · have hn2 : (othersL gs a).length = 0 := by have := of_decide_eq_false hn; omega
    have : lotU gs hands a day = T1 := by
      rw [hU, hn2, Nat.min_zero]
      unfold turnsL
      simp
    rw [this]; rfl
theorem kindsDays_ok (m : Nat) (h : Kn gs hands a b) (c first k : Nat) (hf : first ≤ 10 ^ 18) (hk : k ≤ 1000) (S : Sto) : callN Pg (m + 6) i_two_kinds_days [lotD gs, nD hands, nD c, nD first, nD (first + k)] S = .ok (lotD (((List.range k).filter fun i => decide (c ∈ lotK gs hands a (first + i))).map fun i => first + i)) S := by
  refine callO (f := f_two_kinds_days.fn) rfl rfl rfl (goodL_cons (good_lot gs (k := 0)) (goodL_cons (good_int _) (goodL_cons (good_int _) (goodL_cons (good_int _) (goodL_cons (good_int _) goodL_nil))))).1 (good_lot _ (k := 0)).1 ?_
  show Wp _ b_two_kinds_days [some (lotD gs), some (nD hands), some (nD c), some (nD first), some (nD (first + k)), none] [] _
  refine w_ex (r_call (r_consV (ev_var rfl) (r_consV (ev_var rfl) r_nil)) (check_ok (m + 1) h _)) ?_
  have er : rngL (first : Int) ((first + k : Nat) : Int) = (List.range k).map fun i => nD (first + i) := by
    unfold rngL
    rw [show (((first + k : Nat) : Int) - (first : Int)).toNat = k by omega, rng_map]
    rfl
  have hc := r_lc (C := callN Pg (m + 5)) (σ := [some (lotD gs), some (nD hands), some (nD c), some (nD first), some (nD (first + k)), none]) (S := []) (own := [5]) (elt := .var 5) (tg := .nm 5) (ifs := [(.cmp .inn (.var 2) (.call i_two_kinds_lot [(.var 0), (.var 1), (.var 5)]))]) (as := List.range k) (enc := fun i => nD (first + i)) (fun i => decide (c ∈ lotK gs hands a (first + i))) (fun i => nD (first + i))
    (r_rg2 (ev_var (i := 3) rfl) (ev_var (i := 4) rfl) (by omega) (by omega) (by omega)) (it_rng ..) er rfl rfl fun i hi => lcStep_if rfl (r_if1 (r_cmp (ev_var rfl) (r_call (r_consV (ev_var rfl) (r_consV (ev_var rfl) (r_consV (ev_var rfl) r_nil))) (kindsLot_ok m h _ _)) (in_lot _ _ _)) rfl) fun _ => ev_var rfl
  refine w_retV (r_b1 hc (b_tupF ..)) ?_
  rw [lotD, List.map_map]
  exact retD
end
theorem doneDays_ok (m : Nat) (R : Row) (c : Nat) (S : Sto) : callN Pg (m + 1) i_done_days [rowD R, nD c] S = .ok (lotD (doneL R c)) S := by
  refine callG (f := f_done_days.fn) rfl rfl rfl (good_lot _ (k := 0)).1 ?_
  show Wp _ b_done_days [some (rowD R), some (nD c), none, none] S _
  refine w_retV (r_b1 (r_lc (as := List.range R.length) (fun i => decide (c ∈ R.getD i default)) nD (r_enu (ev_var rfl) (sq_tup ..)) (it_its ..) (enum0 (f := lotD) R) rfl rfl fun i hi => ?_) (b_tupF ..)) retG0
  exact lcStep_if rfl (r_if1 (r_cmp (ev_var rfl) (ev_var rfl) (in_lot _ _ _)) rfl) fun _ => ev_var rfl
theorem keepsGap_ok (m : Nat) (R : Row) (c gap : Nat) (hR : R.length ≤ 1000) (hw : ∀ s, s + gap ≤ R.length → ∃ i, s ≤ i ∧ i < s + gap ∧ c ∈ R.getD i default) (S : Sto) : callN Pg (m + 2) i_keeps_gap [rowD R, nD c, nD gap] S = .ok (.bl true) S := by
  refine callO (f := f_keeps_gap.fn) rfl rfl rfl (goodL_cons (good_row R (k := 0)) (goodL_cons (good_int _) (goodL_cons (good_int _) goodL_nil))).1 rfl ?_
  show Wp _ b_keeps_gap [some (rowD R), some (nD c), some (nD gap), none, none] [] _
  refine w_asgV (r_neg ev_lit) rfl ?_
  have dl : (doneL R c).length ≤ R.length := by
    have := List.length_filter_le (fun i => decide (c ∈ R.getD i default)) (List.range R.length)
    rwa [List.length_range] at this
  have asc : Asc (doneL R c ++ [R.length]) := List.pairwise_append.mpr ⟨asc_filter (asc_range _) _, List.pairwise_singleton .., fun x hx y hy => by
    rw [List.mem_singleton] at hy; subst hy
    exact List.mem_range.mp (List.mem_filter.mp hx).1⟩
  refine w_fr (as := doneL R c ++ [R.length]) (enc := nD) (fun pre σ S => ∃ (e : Nat) (z : Option D), (∀ x ∈ pre, x < e) ∧ σ = [some (rowD R), some (nD c), some (nD gap), some (.int ((e : Int) - 1)), z] ∧ S = [])
    (r_bin (r_call (r_consV (ev_var rfl) (r_consV (ev_var rfl) r_nil)) (doneDays_ok m R c _)) (r_tup (r_consV (r_b1 (ev_var rfl) (b_lenT _)) r_nil)) (op_addT _ _ _ (by simp [lim]; omega))) (it_tup _) (by rw [List.map_append, List.length_map]; rfl) rfl ⟨0, none, fun x hx => (by cases hx), rfl, rfl⟩ (fun _ _ _ _ => rfl) (fun pre d post σ S eq ⟨e, z, hx, hσ, hS⟩ => ?_) (fun σ S ⟨e, z, hx, hσ, hS⟩ => ?_)
  · subst hσ hS
    refine ⟨_, rfl, ?_⟩
    have hdm : d ∈ doneL R c ++ [R.length] := by rw [eq]; simp
    have hdR : d ≤ R.length := by
      rcases List.mem_append.mp hdm with h | h
      · exact Nat.le_of_lt (List.mem_range.mp (List.mem_filter.mp h).1)
      · rw [List.mem_singleton] at h; omega
    rw [eq] at asc
    have asc2 := List.pairwise_append.mp asc
    have hlt : ¬ e + gap ≤ d := fun q => by
      obtain ⟨i, i1, i2, i3⟩ := hw e (by omega)
      have : i ∈ doneL R c ++ [R.length] := List.mem_append_left _ (List.mem_filter.mpr ⟨List.mem_range.mpr (by omega), decide_eq_true i3⟩)
      rw [eq] at this
      rcases List.mem_append.mp this with h | h
      · have := hx i h; omega
      · rcases List.mem_cons.mp h with h | h
        · omega
        · have := (List.pairwise_cons.mp asc2.2.1).1 i h; omega
    refine w_iff (t := false) (r_cmp (r_bin (r_bin (ev_var rfl) (ev_var rfl) op_subI) ev_lit op_subI) (ev_var rfl) (by rw [cm_ge, decide_eq_false (by omega)])) rfl (fun h => by cases h) (fun _ => w_end ?_)
    refine w_asgV (ev_var rfl) rfl (w_nil ⟨d + 1, some (nD d), fun x hx2 => ?_, ?_, rfl⟩)
    · rcases List.mem_append.mp hx2 with h | h
      · have := asc2.2.2 x h d List.mem_cons_self; omega
      · rw [List.mem_singleton] at h; omega
    · have : (((d + 1 : Nat) : Int) - 1) = d := by omega
      rw [this]; rfl
  · subst hσ hS
    exact w_retV ev_lit retD
theorem keepsGaps_ok (m : Nat) {gs : List Nat} {hands : Nat} (R : Row) (hR : R.length ≤ 1000) (hl : ∀ l ∈ R, l.length ≤ hands) (hw : ∀ c, c < gs.length → ∀ s, s + gs.getD c default ≤ R.length → ∃ i, s ≤ i ∧ i < s + gs.getD c default ∧ c ∈ R.getD i default) (S : Sto) : callN Pg (m + 3) i_keeps_gaps [lotD gs, nD hands, rowD R] S = .ok (.bl true) S := by
  refine callO (f := f_keeps_gaps.fn) rfl rfl rfl (goodL_cons (good_up (good_lot gs (k := 0)) (by decide)) (goodL_cons (good_int _) (goodL_cons (good_row R (k := 0)) goodL_nil))).1 rfl ?_
  show Wp _ b_keeps_gaps [some (lotD gs), some (nD hands), some (rowD R), none, none, none] [] _
  have h1 := r_lc (C := callN Pg (m + 2)) (σ := [some (lotD gs), some (nD hands), some (rowD R), none, none, none]) (S := []) (own := [3]) (elt := .var 3) (tg := .nm 3) (ifs := [(.cmp .gt (.b1 .len (.var 3)) (.var 1))]) (as := R) (enc := lotD) (fun _ => false) lotD
    (ev_var (i := 2) rfl) (it_tup _) rfl rfl rfl fun l hlm => lcStep_if rfl (r_if1 (r_cmp (r_b1 (ev_var rfl) ((b_lenT _).trans (by rw [List.length_map]))) (ev_var rfl) (by rw [cm_gtN, decide_eq_false (by have := hl l hlm; omega)])) rfl) fun h => by cases h
  rw [List.filter_eq_nil_iff.mpr (fun _ _ h => by cases h)] at h1
  refine w_iff (t := false) (r_cmp (r_b1 h1 (b_lenF _)) ev_lit (by rw [cm_gt]; rfl)) rfl (fun h => by cases h) (fun _ => w_end ?_)
  have h2 := r_lc (C := callN Pg (m + 2)) (σ := [some (lotD gs), some (nD hands), some (rowD R), none, none, none]) (S := []) (own := [4, 5]) (elt := .var 4) (tg := .tp [4, 5]) (ifs := [(.nt (.call i_keeps_gap [(.var 2), (.var 4), (.var 5)]))]) (as := List.range gs.length) (fun _ => false) nD
    (r_enu (ev_var (i := 0) rfl) (sq_tup ..)) (it_its ..) (enum0 (f := nD) gs) rfl rfl fun i hi => lcStep_if rfl (r_if1 (r_not (t := true) (r_call (r_consV (ev_var rfl) (r_consV (ev_var rfl) (r_consV (ev_var rfl) r_nil))) (keepsGap_ok m R i _ hR (hw i (List.mem_range.mp hi)) _))) rfl) fun h => by cases h
  rw [List.filter_eq_nil_iff.mpr (fun _ _ h => by cases h)] at h2
  exact w_retV (r_cmp (r_b1 h2 (b_lenF _)) ev_lit (by rw [cm_eq]; rfl)) retD
end T
end Nog

set_option Elab.async false
set_option linter.all false
set_option maxRecDepth 100000
set_option maxHeartbeats 16000000
/-! k99: _law_lot, _law_kinds -/
namespace Nog
def toN : D → Nat
  | .int i => i.toNat
  | _ => 0
theorem toN_map (l : List Nat) : (l.map nD).map toN = l := by
  rw [List.map_map]
  conv => rhs; rw [← List.map_id l]
  exact List.map_congr_left fun x _ => by simp [toN]
theorem perm_nD {l m : List Nat} (h : (l.map nD).Perm (m.map nD)) : l.Perm m := by
  have := h.map toN
  rwa [toN_map, toN_map] at this
theorem op_mulF {S : Sto} {x : D} {n : Nat} (h : n ≤ 1000) : opB .mul S (.fresh [x]) (.val (nD n)) = .ok (.fresh (List.replicate n x)) S := by
  have hl : lim = 16777216 := rfl
  have e : (decide ((-1000000 : Int) ≤ (n : Int)) && decide ((n : Int) ≤ 1000000) && decide ([x].length * n ≤ lim)) = true := by
    rw [decide_eq_true (show (-1000000 : Int) ≤ (n : Int) by omega), decide_eq_true (show (n : Int) ≤ 1000000 by omega), decide_eq_true (show [x].length * n ≤ lim by simp; omega)]; rfl
  simp only [opB, Pv.mutItems, Int.toNat_natCast, e, if_true, rep_repl]
theorem sz_nat (n : Int) : (D.int n).sz = 1 := by simp [D.sz]
namespace T
section
variable {gs : List Nat} {hands a b : Nat}
theorem lawLot_ok (m : Nat) (h : Kn gs hands a b) {day : Nat} (hday : day ≤ 10 ^ 18) (S : Sto) : callN Pg (m + 1) i_L_lot [lotD gs, nD hands, nD day] S = .ok (lotD (lotK gs hands a day)) S := by
  refine callO (f := f_L_lot.fn) rfl rfl rfl (goodL_cons (good_lot gs (k := 0)) (goodL_cons (good_int _) (goodL_cons (good_int _) goodL_nil))).1 (good_lot _ (k := 0)).1 ?_
  show Wp _ b_L_lot [some (lotD gs), some (nD hands), some (nD day), none, none, none, none, none, none, none, none, none, none, none, none] [] _
  have hlen := h.len
  have h3 := h.h3
  have a1 := h.a1
  have ab := h.ab
  have b1 := h.b100
  have m1 := h.m1
  have fle := firsts_le gs a
  have ole := others_le gs a
  have st := ahd_step (d := day) (m := (firstsL gs a).length) (k := (firstsL gs a).length) a1 (Nat.le_mul_of_pos_right _ a1)
  have st2 := ahd_step (d := day) a1 h.mle
  have mono := ahd_mono (m := (firstsL gs a).length) (a := a) (d := day)
  have al := ahd_le (d := day) a1 h.mle
  have low := kn_low h
  have hd3 : hands * day ≤ 3 * day := Nat.mul_le_mul_right _ h3
  refine w_asgV (r_b1 (ev_var rfl) (b_minT h.has low)) rfl ?_
  have lg : ∀ S, bi1 .len S (.val (lotD gs)) = .ok (.val (nD gs.length)) S := fun S => by rw [b_lenT, List.length_map]
  have h1 := r_lc (C := callN Pg m) (σ := [some (lotD gs), some (nD hands), some (nD day), some (nD a), none, none, none, none, none, none, none, none, none, none, none]) (S := []) (own := [13]) (elt := .var 13) (tg := .nm 13) (ifs := [(.cmp .eq (.ix (.var 0) (.var 13)) (.var 3))]) (as := List.range gs.length) (enc := nD) (fun i => decide (gs.getD i default = a)) nD
    (r_rg1 (r_b1 (ev_var (i := 0) rfl) (lg _)) (by omega) (by omega)) (it_rng ..) (rngL0 _) rfl rfl fun i hi => lcStep_if rfl (r_if1 (r_cmp (r_ix (ev_var rfl) (ev_var rfl) (ix_lot (List.mem_range.mp hi))) (ev_var rfl) cm_eqN) rfl) fun _ => ev_var rfl
  refine w_asg h1 rfl rfl ?_
  have h2 := r_lc (C := callN Pg m) (σ := [some (lotD gs), some (nD hands), some (nD day), some (nD a), some (.ref 0), none, none, none, none, none, none, none, none, none, none]) (S := [.lst ((firstsL gs a).map nD)]) (own := [13]) (elt := .var 13) (tg := .nm 13) (ifs := [(.cmp .ne (.ix (.var 0) (.var 13)) (.var 3))]) (as := List.range gs.length) (enc := nD) (fun i => !decide (gs.getD i default = a)) nD
    (r_rg1 (r_b1 (ev_var (i := 0) rfl) (lg _)) (by omega) (by omega)) (it_rng ..) (rngL0 _) rfl rfl fun i hi => lcStep_if rfl (r_if1 (r_cmp (r_ix (ev_var rfl) (ev_var rfl) (ix_lot (List.mem_range.mp hi))) (ev_var rfl) cm_neN) rfl) fun _ => ev_var rfl
  refine w_asg h2 rfl rfl ?_
  show Wp _ _ [some (lotD gs), some (nD hands), some (nD day), some (nD a), some (.ref 0), some (.ref 1), none, none, none, none, none, none, none, none, none] [.lst ((firstsL gs a).map nD), .lst ((othersL gs a).map nD)] _
  refine w_asgV (r_tup (r_consV (r_b1 (ev_var rfl) ((b_lenR rfl).trans (by rw [List.length_map]))) (r_consV (r_b1 (ev_var rfl) ((b_lenR rfl).trans (by rw [List.length_map]))) r_nil))) rfl ?_
  refine w_par (x := nD (ahd (firstsL gs a).length a day)) (y := nD (ahd (firstsL gs a).length a (day + 1))) (S2 := [.lst ((firstsL gs a).map nD), .lst ((othersL gs a).map nD)]) (r_bin (r_bin (ev_var rfl) (ev_var rfl) (op_mulN (by omega))) (ev_var rfl) (op_fdivN a1 (by omega))) (r_bin (r_bin (r_bin (ev_var rfl) ev_lit (op_addN (b := 1))) (ev_var rfl) (op_mulN (by omega))) (ev_var rfl) (op_fdivN a1 (by omega))) ?_
  have hU : lotU gs hands a day = turnsL (firstsL gs a) (ahd (firstsL gs a).length a day) (ahd (firstsL gs a).length a (day + 1) - ahd (firstsL gs a).length a day) ++
    turnsL (othersL gs a) (hands * day - ahd (firstsL gs a).length a day) (min (hands - (ahd (firstsL gs a).length a (day + 1) - ahd (firstsL gs a).length a day)) (othersL gs a).length) := rfl
  have hlU := lotU_len h day
  have hK : lotK gs hands a day = srt (lotU gs hands a day) := rfl
  rw [hK]
  generalize hA : ahd (firstsL gs a).length a day = A at *
  generalize hB : ahd (firstsL gs a).length a (day + 1) = B at *
  clear hA hB h1 h2
  generalize hF : firstsL gs a = F at *
  generalize hO : othersL gs a = O at *
  clear hF hO
  have er : rngL (A : Int) (B : Int) = (List.range (B - A)).map fun i => nD (A + i) := by
    unfold rngL
    rw [show ((B : Int) - (A : Int)).toNat = B - A by omega, rng_map]
    rfl
  have h4 := r_lcm (C := callN Pg m) (σ := [some (lotD gs), some (nD hands), some (nD day), some (nD a), some (.ref 0), some (.ref 1), none, some (nD F.length), some (nD O.length), some (nD A), some (nD B), none, none, none, none]) (S := [.lst (F.map nD), .lst (O.map nD)]) (own := [14]) (elt := .ix (.var 4) (.bin .mod (.b1 .int (.var 14)) (.var 7))) (tg := .nm 14) (as := List.range (B - A)) (enc := fun i => nD (A + i)) (fun t => nD (F.getD ((A + t) % F.length) default))
    (r_rg2 (ev_var (i := 9) rfl) (ev_var (i := 10) rfl) (by omega) (by omega) (by omega)) (it_rng ..) er rfl rfl fun t ht => lcStep_all rfl (r_ix (ev_var rfl) (r_bin (r_b1 (ev_var rfl) (b_intI _)) (ev_var rfl) (op_modN (by omega))) (ix_ref rfl (Nat.mod_lt _ (by omega))))
  have e4 : (List.range (B - A)).map (fun t => nD (F.getD ((A + t) % F.length) default)) = (turnsL F A (B - A)).map nD := by unfold turnsL; rw [List.map_map]; rfl
  rw [e4] at h4
  have tl1 := turnsL_len F A (B - A)
  have tl2 := turnsL_len O (hands * day - A) (min (hands - (B - A)) O.length)
  refine w_asg h4 rfl rfl ?_
  generalize turnsL F A (B - A) = T1 at *
  show Wp _ _ [some (lotD gs), some (nD hands), some (nD day), some (nD a), some (.ref 0), some (.ref 1), some (.ref 2), some (nD F.length), some (nD O.length), some (nD A), some (nD B), none, none, none, none] [.lst (F.map nD), .lst (O.map nD), .lst (T1.map nD)] _
  refine w_asgV (r_tup (r_consV (r_bin (r_bin (ev_var rfl) (ev_var rfl) (op_mulN (by omega))) (ev_var rfl) (op_subN al)) (r_consV (r_bin (ev_var rfl) (r_bin (ev_var rfl) (ev_var rfl) (op_subN mono)) (op_subN (by omega))) r_nil))) rfl ?_
  have fin : ∀ (σ : Env) (S : Sto), σ[6]? = some (some (.ref 2)) → S[2]? = some (.lst ((lotU gs hands a day).map nD)) → Wp (callN Pg m) [.ret (.b1 .tuple (.b1 .sorted (.var 6)))] σ S (RetD (lotD (srt (lotU gs hands a day)))) := fun σ S h1 h2 =>
    w_retV (r_b1 (r_b1 (ev_var h1) (b_sortR h2 (okSort_nat _))) (by rw [b_tupF, sort_nat])) retD
  refine w_iff (t := decide (0 < O.length)) (r_cmp (ev_var rfl) ev_lit (cm_gtN (b := 0))) rfl (fun hn => ?_) (fun hn => w_end (fin _ _ rfl ?_))
  · have hn2 : 0 < O.length := of_decide_eq_true hn
    have h5 := r_lcm (C := callN Pg m) (σ := [some (lotD gs), some (nD hands), some (nD day), some (nD a), some (.ref 0), some (.ref 1), some (.ref 2), some (nD F.length), some (nD O.length), some (nD A), some (nD B), some (nD (hands * day - A)), some (nD (hands - (B - A))), none, none]) (S := [.lst (F.map nD), .lst (O.map nD), .lst (T1.map nD)]) (own := [14]) (elt := .ix (.var 5) (.bin .mod (.b1 .int (.bin .add (.var 11) (.var 14))) (.var 8))) (tg := .nm 14) (as := List.range (min (hands - (B - A)) O.length)) (enc := nD) (fun t => nD (O.getD ((hands * day - A + t) % O.length) default))
      (r_rg1 (r_b2 (ev_var (i := 12) rfl) (ev_var (i := 8) rfl) (b_min2N _ _)) (by omega) (by omega)) (it_rng ..) (rngL0 _) rfl rfl fun t ht => lcStep_all rfl (r_ix (ev_var rfl) (r_bin (r_b1 (r_bin (ev_var rfl) (ev_var rfl) op_addN) (b_intI _)) (ev_var rfl) (op_modN hn2)) (ix_ref rfl (Nat.mod_lt _ hn2)))
    have e5 : (List.range (min (hands - (B - A)) O.length)).map (fun t => nD (O.getD ((hands * day - A + t) % O.length) default)) = (turnsL O (hands * day - A) (min (hands - (B - A)) O.length)).map nD := by unfold turnsL; rw [List.map_map]; rfl
    rw [e5] at h5
    refine w_ex (r_ext (ev_var rfl) rfl h5 (by rw [List.length_append, List.length_map, List.length_map, tl1, tl2]; unfold lim; omega)) (w_end (fin _ _ rfl ?_))
    rw [hU, List.map_append]; rfl
  · have hn2 : O.length = 0 := by have := of_decide_eq_false hn; omega
    have : lotU gs hands a day = T1 := by
      rw [hU, hn2, Nat.min_zero]
      unfold turnsL
      simp
    rw [this]; rfl
end
theorem kinds_ok (m : Nat) {T S : Sto} (h : PlS T S) : ∃ T' S', callN Pg (m + 7) i_L_kinds [.ref 1] S = .ok (.bl true) S' ∧ PlS T' S' := by
  refine callR (P := Pg) (m := m + 6) (k := i_L_kinds) (as := [.ref 1]) (f := f_L_kinds.fn) rfl rfl rfl (Q := fun z => ∃ T' S', z = .ok (.bl true) S' ∧ PlS T' S') ?_
  show Wp _ b_L_kinds [some (.ref 1), none, none, none, none, none, none, none, none, none, none, none, none, none, none, none, none] S _
  obtain ⟨n1, S1, c1, h1, l1⟩ := draw_ok (m + 5) (k := 2) (by omega) (by omega) h
  obtain ⟨u1, x1, u11, u12⟩ : ∃ u : Nat, ixP S1 (.val (.tup [.int 6, .int 40])) (.val (nD n1)) = some (nD u) ∧ 1 ≤ u ∧ u ≤ 40 := by
    have : n1 = 0 ∨ n1 = 1 := by omega
    rcases this with rfl | rfl
    · exact ⟨6, rfl, by omega, by omega⟩
    · exact ⟨40, rfl, by omega, by omega⟩
  obtain ⟨n2, S2, c2, h2, l2⟩ := draw_ok (m + 5) (k := u1) (by omega) (by omega) h1
  refine w_asgV (r_bin ev_lit (r_call (r_consV (ev_var rfl) (r_consV (r_ix (r_tup (r_consV ev_lit (r_consV ev_lit r_nil))) (r_call (r_consV (ev_var rfl) (r_consV ev_lit r_nil)) c1) x1) r_nil)) c2) (op_addN (a := 1))) rfl ?_
  obtain ⟨a, ha⟩ : ∃ a, 1 + n2 = a := ⟨_, rfl⟩
  rw [ha]
  have a1 : 1 ≤ a := by omega
  have a40 : a ≤ 40 := by omega
  obtain ⟨n3, S3, c3, h3, l3⟩ := draw_ok (m + 5) (k := 2) (by omega) (by omega) h2
  obtain ⟨u2, x2, u21, u22⟩ : ∃ u : Nat, ixP S3 (.val (.tup [.int 3, .int 30])) (.val (nD n3)) = some (nD u) ∧ 1 ≤ u ∧ u ≤ 30 := by
    have : n3 = 0 ∨ n3 = 1 := by omega
    rcases this with rfl | rfl
    · exact ⟨3, rfl, by omega, by omega⟩
    · exact ⟨30, rfl, by omega, by omega⟩
  obtain ⟨n4, S4, c4, h4, l4⟩ := draw_ok (m + 5) (k := u2) (by omega) (by omega) h3
  refine w_asgV (r_bin (ev_var rfl) (r_call (r_consV (ev_var rfl) (r_consV (r_ix (r_tup (r_consV ev_lit (r_consV ev_lit r_nil))) (r_call (r_consV (ev_var rfl) (r_consV ev_lit r_nil)) c3) x2) r_nil)) c4) op_addN) rfl ?_
  obtain ⟨b, hb⟩ : ∃ b, a + n4 = b := ⟨_, rfl⟩
  rw [hb]
  have ab : a ≤ b := by omega
  have b99 : b ≤ 99 := by omega
  obtain ⟨n5, S5, c5, h5, l5⟩ := draw_ok (m + 5) (k := 3) (by omega) (by omega) h4
  refine w_asgV (r_bin ev_lit (r_call (r_consV (ev_var rfl) (r_consV ev_lit r_nil)) c5) (op_addN (a := 1))) rfl ?_
  obtain ⟨hands, hh⟩ : ∃ hands, 1 + n5 = hands := ⟨_, rfl⟩
  rw [hh]
  have hh1 : 1 ≤ hands := by omega
  have hh3 : hands ≤ 3 := by omega
  have hha : 1 ≤ hands * a := Nat.mul_pos hh1 a1
  obtain ⟨mm, S6, c6, h6, l6⟩ := draw_ok (m + 5) (k := min 12 (hands * a) + 1) (by omega) (by omega) h5
  refine w_asgV (r_call (r_consV (ev_var rfl) (r_consV (r_bin (r_b2 ev_lit (r_bin (ev_var rfl) (ev_var rfl) (op_mulN (by omega))) (b_min2N 12 _)) ev_lit (op_addN (b := 1))) r_nil)) c6) rfl ?_
  have mle : mm ≤ hands * a := by omega
  refine w_asgV (r_bin (r_bin (r_bin (r_bin (ev_var rfl) (ev_var rfl) (op_mulN (by omega))) (ev_var rfl) (op_subN mle)) (ev_var rfl) (op_mulN (by omega))) (ev_var rfl) (op_fdivN a1 (by omega))) rfl ?_
  obtain ⟨room, hroom⟩ : ∃ room, (hands * a - mm) * b / a = room := ⟨_, rfl⟩
  rw [hroom]
  have hra : room * a ≤ (hands * a - mm) * b := by rw [← hroom]; exact Nat.div_mul_le_self _ _
  obtain ⟨n7, S7, c7, h7, l7⟩ := draw_ok (m + 5) (k := 2) (by omega) (by omega) h6
  obtain ⟨n, S8, c8, h8, l8⟩ : ∃ (n : Nat) (S8 : Sto), ev (callN Pg (m + 6)) (.ite (.call i_L_draw [(.var 0), (.lit (.int 2))]) (.b2 .min (.lit (.int 12)) (.var 5)) (.call i_L_draw [(.var 0), (.bin .add (.b2 .min (.lit (.int 12)) (.var 5)) (.lit (.int 1)))])) [some (.ref 1), some (nD a), some (nD b), some (nD hands), some (nD mm), some (nD room), none, none, none, none, none, none, none, none, none, none, none] S6 = .ok (.val (nD n)) S8 ∧ PlS T S8 ∧ n ≤ min 12 room := by
    by_cases z : n7 = 0
    · subst z
      obtain ⟨n8, S8, c8, h8, l8⟩ := draw_ok (m + 5) (k := min 12 room + 1) (by omega) (by omega) h7
      exact ⟨n8, S8, r_ite (t := false) (r_call (r_consV (ev_var rfl) (r_consV ev_lit r_nil)) c7) rfl (fun h => by cases h) (fun _ => r_call (r_consV (ev_var rfl) (r_consV (r_bin (r_b2 ev_lit (ev_var rfl) (b_min2N 12 _)) ev_lit (op_addN (b := 1))) r_nil)) c8), h8, by omega⟩
    · have : n7 = 1 := by omega
      subst this
      exact ⟨min 12 room, S7, r_ite (t := true) (r_call (r_consV (ev_var rfl) (r_consV ev_lit r_nil)) c7) rfl (fun _ => r_b2 ev_lit (ev_var rfl) (b_min2N 12 _)) (fun h => by cases h), h7, by omega⟩
  refine w_asgV c8 rfl ?_
  have hna : n * a ≤ (hands * a - mm) * b := Nat.le_trans (Nat.mul_le_mul_right a (show n ≤ room by omega)) hra
  have hmm12 : mm ≤ 12 := by omega
  have hn12 : n ≤ 12 := by omega
  refine w_iffJ (t := decide (mm + n = 0)) (fun σ S => ∃ q : Nat, 1 ≤ q + n ∧ q ≤ 12 ∧ q ≤ hands * a ∧ n * a ≤ (hands * a - q) * b ∧ PlS T S ∧ σ = [some (.ref 1), some (nD a), some (nD b), some (nD hands), some (nD q), some (nD room), some (nD n), none, none, none, none, none, none, none, none, none, none])
    (r_cmp (r_bin (ev_var rfl) (ev_var rfl) op_addN) ev_lit (cm_eqN (b := 0))) rfl (fun z => ?_) (fun z => w_nil ⟨mm, by have := of_decide_eq_false z; omega, hmm12, mle, hna, h8, rfl⟩) fun σ S ⟨q, q1, q12, qle, qna, hP, hσ⟩ => ?_
  · have z := of_decide_eq_true z
    have z2 : n = 0 := by omega
    subst z2
    exact w_asgV ev_lit rfl (w_nil ⟨1, by omega, by omega, hha, by omega, h8, rfl⟩)
  subst hσ
  have exs : List.replicate q (nD a) ++ List.replicate n (nD b) = (List.replicate q a ++ List.replicate n b).map nD := by rw [List.map_append, List.map_replicate, List.map_replicate]
  have h9 := hP.app [.lst ((List.replicate q a ++ List.replicate n b).map nD)]
  obtain ⟨ys, T9, S9, lr, c9, h9, g9, pm⟩ := shuffled_ok (m + 4) h9 (look_new S _) (by simp; omega)
  obtain ⟨gs, rfl, -⟩ := exists_map (f := nD) (P := fun _ => True) (ys := ys) fun y hy => by
    obtain ⟨x, hx, rfl⟩ := List.mem_map.mp (pm.mem_iff.mp hy)
    exact ⟨x, rfl, trivial⟩
  have pm := perm_nD pm
  obtain ⟨a', b', kn⟩ := kd_of pm hh1 hh3 a1 ab b99 q1 q12 hn12 qle qna
  refine w_asgV (d := lotD gs) (S1 := S9) (r_b1 (r_call (r_consV (ev_var rfl) (r_cons (r_bin (r_bin (r_lst (r_consV (ev_var rfl) r_nil)) (ev_var rfl) (op_mulF (by omega))) (r_bin (r_lst (r_consV (ev_var rfl) r_nil)) (ev_var rfl) (op_mulF (by omega))) (op_addFF (by simp [lim]; omega))) (by rw [exs]; rfl) r_nil)) c9) (b_tupR g9)) rfl ?_
  obtain ⟨d0, S10, c10, h10, l10⟩ := day_ok (m + 4) h9
  refine w_asgV (r_bin (r_call (r_consV (ev_var rfl) r_nil) c10) ev_lit (op_fdivN (b := 2) (by omega) (by omega))) rfl ?_
  obtain ⟨first, hf⟩ : ∃ first, d0 / 2 = first := ⟨_, rfl⟩
  rw [hf]
  have hf2 : first ≤ 500000000000000000 := by omega
  have hlen := kn.len
  have hR1 := r_lcm (C := callN Pg (m + 6)) (σ := [some (.ref 1), some (nD a), some (nD b), some (nD hands), some (nD q), some (nD room), some (nD n), some (lotD gs), some (nD first), none, none, none, none, none, none, none, none]) (S := S10) (own := [10]) (tg := .nm 10) (elt := .call i_L_lot [(.var 7), (.var 3), (.bin .add (.var 8) (.var 10))]) (as := List.range 30) (enc := nD) (fun k => lotD (lotK gs hands a' (first + k)))
    (r_rg1 ev_lit (by omega) (by omega)) (it_rng ..) (rngL0 30) rfl rfl fun k hk => lcStep_all rfl (r_call (r_consV (ev_var rfl) (r_consV (ev_var rfl) (r_consV (r_bin (ev_var rfl) (ev_var rfl) op_addN) r_nil))) (lawLot_ok (m + 5) kn (by have := List.mem_range.mp hk; omega) _))
  obtain ⟨R, hR⟩ : ∃ R : Row, R = (List.range 30).map fun k => lotK gs hands a' (first + k) := ⟨_, rfl⟩
  have hRm : (List.range 30).map (fun k => lotD (lotK gs hands a' (first + k))) = R.map lotD := by rw [hR, List.map_map]; rfl
  rw [hRm] at hR1
  refine w_asgV (d := rowD R) (r_b1 hR1 (b_tupF _)) rfl ?_
  have hRl : R.length = 30 := by rw [hR]; simp
  have hRg : ∀ k, k < 30 → R.getD k default = lotK gs hands a' (first + k) := fun k hk => by
    rw [hR, List.getD_eq_getElem?_getD, List.getElem?_map, List.getElem?_range hk]; rfl
  have hRx : ∀ (k : Nat) (S : Sto), k < 30 → ixP S (.val (rowD R)) (.val (nD k)) = some (lotD (lotK gs hands a' (first + k))) := fun k S hk => by
    rw [← hRg k hk]; exact ix_map (by rw [hRl]; exact hk)
  have hRmem : ∀ l ∈ R, l.length ≤ hands := fun l hl => by
    rw [hR] at hl
    obtain ⟨k, _, rfl⟩ := List.mem_map.mp hl
    exact lotK_len kn _
  clear hR1 hRm
  obtain ⟨d1, S11, c11, h11, l11⟩ := draw_ok (m + 5) (k := 30) (by omega) (by omega) h10
  refine w_fr (as := [0, 1, 29, d1]) (enc := nD) (fun pre σ S => ∃ z : Option D, PlS T9 S ∧ σ = [some (.ref 1), some (nD a), some (nD b), some (nD hands), some (nD q), some (nD room), some (nD n), some (lotD gs), some (nD first), some (rowD R), z, none, none, none, none, none, none])
    (r_tup (r_consV ev_lit (r_consV ev_lit (r_consV ev_lit (r_consV (r_call (r_consV (ev_var rfl) (r_consV ev_lit r_nil)) c11) r_nil))))) (it_tup _) rfl rfl ⟨_, h11, rfl⟩ (fun _ _ _ _ => rfl) (fun pre k post σ S e ⟨z, hP, hσ⟩ => ?_) (fun σ S ⟨z, hP, hσ⟩ => ?_)
  · subst hσ
    refine ⟨_, rfl, ?_⟩
    have hk : k < 30 := by
      have : k ∈ [0, 1, 29, d1] := by rw [e]; simp
      simp at this
      omega
    have kl := lotK_len kn (first + k)
    exact w_iff (t := false) (r_not (t := true) (r_call (r_consV (r_call (r_consV (ev_var rfl) (r_consV (ev_var rfl) (r_consV (r_bin (ev_var rfl) (ev_var rfl) op_addN) r_nil))) (kindsLot_ok (m + 1) kn _ _)) (r_consV (r_ix (ev_var rfl) (ev_var rfl) (hRx k _ hk)) r_nil)) (same_ok (m + 5) (good_up (good_lot _ (k := 0)) (by decide)) (by rw [sz_lot]; omega) _))) rfl (fun h => by cases h) (fun _ => w_end (w_nil ⟨_, hP, rfl⟩))
  subst hσ
  have gs1 : 1 ≤ gs.length := List.length_pos_of_mem kn.has
  have lg : ∀ S, bi1 .len S (.val (lotD gs)) = .ok (.val (nD gs.length)) S := fun S => by rw [b_lenT, List.length_map]
  obtain ⟨c, S12, c12, h12, l12⟩ := draw_ok (m + 5) (k := gs.length) gs1 (by omega) hP
  refine w_asgV (r_call (r_consV (ev_var rfl) (r_consV (r_b1 (ev_var rfl) (lg _)) r_nil)) c12) rfl ?_
  have hD1 := r_lc (C := callN Pg (m + 6)) (σ := [some (.ref 1), some (nD a), some (nD b), some (nD hands), some (nD q), some (nD room), some (nD n), some (lotD gs), some (nD first), some (rowD R), z, some (nD c), none, none, none, none, none]) (S := S12) (own := [10]) (tg := .nm 10) (elt := .bin .add (.var 8) (.var 10)) (ifs := [(.cmp .inn (.var 11) (.ix (.var 9) (.var 10)))]) (as := List.range 30) (enc := nD) (fun i => decide (c ∈ lotK gs hands a' (first + i))) (fun i => nD (first + i))
    (r_rg1 ev_lit (by omega) (by omega)) (it_rng ..) (rngL0 30) rfl rfl fun k hk => lcStep_if rfl (r_if1 (r_cmp (ev_var rfl) (r_ix (ev_var rfl) (ev_var rfl) (hRx k _ (List.mem_range.mp hk))) (in_lot _ _ _)) rfl) fun _ => r_bin (ev_var rfl) (ev_var rfl) op_addN
  obtain ⟨Dl, hDl⟩ : ∃ Dl : List Nat, Dl = ((List.range 30).filter fun i => decide (c ∈ lotK gs hands a' (first + i))).map fun i => first + i := ⟨_, rfl⟩
  have hDm : ((List.range 30).filter fun i => decide (c ∈ lotK gs hands a' (first + i))).map (fun i => nD (first + i)) = Dl.map nD := by rw [hDl, List.map_map]; rfl
  have hDlen : Dl.length ≤ 30 := by
    rw [hDl, List.length_map]
    have := List.length_filter_le (fun i => decide (c ∈ lotK gs hands a' (first + i))) (List.range 30)
    rwa [List.length_range] at this
  rw [hDm] at hD1
  refine w_asgV (d := lotD Dl) (r_b1 hD1 (b_tupF _)) rfl ?_
  have kd := kindsDays_ok m kn c first 30 (by omega) (by omega) S12
  rw [← hDl] at kd
  refine w_iff (t := false) (r_not (t := true) (r_call (r_consV (r_call (r_consV (ev_var rfl) (r_consV (ev_var rfl) (r_consV (ev_var rfl) (r_consV (ev_var rfl) (r_consV (r_bin (ev_var rfl) ev_lit (op_addN (b := 30))) r_nil))))) kd) (r_consV (ev_var rfl) r_nil)) (same_ok (m + 5) (good_up (good_lot _ (k := 0)) (by decide)) (by rw [sz_lot]; omega) _))) rfl (fun h => by cases h) (fun _ => w_end ?_)
  clear hD1 kd hDm
  have kg := keepsGaps_ok (m + 3) (gs := gs) (hands := hands) R (by omega) hRmem (fun c hc s hs => by
    rw [hRl] at hs
    obtain ⟨e, e1, e2, e3⟩ := comes kn hc (first + s)
    refine ⟨e - first, by omega, by omega, ?_⟩
    rw [hRg _ (by omega), show first + (e - first) = e by omega]
    exact e3) S12
  refine w_iff (t := false) (r_not (t := true) (r_call (r_consV (r_call (r_consV (ev_var rfl) (r_consV (ev_var rfl) (r_consV (ev_var rfl) r_nil))) kg) (r_consV ev_lit r_nil)) (same_ok (m + 5) (good_bl true) (by simp [D.sz]) _))) rfl (fun h => by cases h) (fun _ => w_end ?_)
  obtain ⟨e1, S13, c13, h13, l13⟩ := draw_ok (m + 5) (k := 50) (by omega) (by omega) h12
  obtain ⟨e2, S14, c14, h14, l14⟩ := draw_ok (m + 5) (k := 50) (by omega) (by omega) h13
  refine w_par (r_bin ev_lit (r_call (r_consV (ev_var rfl) (r_consV ev_lit r_nil)) c13) (op_addN (a := 1))) (r_bin ev_lit (r_call (r_consV (ev_var rfl) (r_consV ev_lit r_nil)) c14) (op_addN (a := 1))) ?_
  obtain ⟨many, hmany⟩ : ∃ many, 1 + e1 = many := ⟨_, rfl⟩
  obtain ⟨days, hdays⟩ : ∃ days, 1 + e2 = days := ⟨_, rfl⟩
  rw [hmany, hdays]
  have my1 : 1 ≤ many := by omega
  have my2 : many ≤ 50 := by omega
  have dy1 : 1 ≤ days := by omega
  have dy2 : days ≤ 50 := by omega
  obtain ⟨day, S15, c15, h15, l15⟩ := day_ok (m + 4) h14
  refine w_asgV (r_call (r_consV (ev_var rfl) r_nil) c15) rfl ?_
  have fd : ∀ (x : Nat) (σ : Env) (ex : E), ev (callN Pg (m + 6)) ex σ S15 = .ok (.val (nD x)) S15 → σ[15]? = some (some (nD many)) → σ[16]? = some (some (nD days)) → ev (callN Pg (m + 6)) (.bin .fdiv (.bin .mul ex (.var 15)) (.var 16)) σ S15 = .ok (.val (nD (ahd many days x))) S15 := fun x σ ex h1 h2 h3 =>
    r_bin (r_bin h1 (ev_var h2) (op_mulN (by omega))) (ev_var h3) (op_fdivN dy1 (by omega))
  refine w_asgV (d := .tup [nD (ahd many days (day + 1) - ahd many days day), nD (ahd many days day)]) (S1 := S15) (r_tup (r_consV (r_bin (fd (day + 1) _ _ (r_bin (ev_var rfl) ev_lit (op_addN (b := 1))) rfl rfl) (fd day _ _ (ev_var rfl) rfl rfl) (op_subN ahd_mono)) (r_consV (fd day _ _ (ev_var rfl) rfl rfl) r_nil))) rfl ?_
  refine w_iff (t := false) (r_not (t := true) (r_call (r_consV (r_tup (r_consV (r_call (r_consV (ev_var rfl) (r_consV (ev_var rfl) (r_consV (ev_var rfl) r_nil))) (even_ok (m + 4) (by omega) dy1 (by omega) _ _)) (r_consV (r_call (r_consV (ev_var rfl) (r_consV (ev_var rfl) (r_consV ev_lit (r_consV (ev_var rfl) r_nil)))) (evensum_ok (m + 4) (by omega) dy1 (by omega) _ _)) r_nil))) (r_consV (ev_var rfl) r_nil)) (same_ok (m + 5) (good_up (good_tup (k := 0) (goodL_cons (good_int _) (goodL_cons (good_int _) goodL_nil))) (by decide)) (by simp [D.sz, D.szL]) _))) rfl (fun h => by cases h) (fun _ => w_end ?_)
  obtain ⟨number, S16, c16, h16, l16⟩ := day_ok (m + 4) h15
  refine w_asgV (r_call (r_consV (ev_var rfl) r_nil) c16) rfl ?_
  have el := even_law (((number : Int) + 1) * days) many (by omega)
  have ep := evenplace_ok (m + 5) (k := many) (d := days) (n := number) my1 (by omega) (by omega) S16
  rw [← el] at ep
  exact w_retV (r_call (r_consV (r_call (r_consV (ev_var rfl) (r_consV (ev_var rfl) (r_consV (ev_var rfl) r_nil))) ep) (r_consV (r_bin (r_bin ev_lit (r_bin (r_bin ev_lit (r_bin (r_bin (ev_var rfl) ev_lit op_addI) (ev_var rfl) (op_mulI (mulOk_r2 (by omega)))) op_subI) (ev_var rfl) (op_fdivI (by omega) (log_small (by omega)))) op_subI) ev_lit op_subI) r_nil)) (same_ok (m + 5) (good_int _) (by simp [D.sz]) _)) ⟨T9, _, rfl, h16⟩
end T
end Nog

set_option Elab.async false
set_option linter.all false
set_option maxRecDepth 100000
set_option maxHeartbeats 4000000
/-! k99: chains: the plain part, the program's functions -/
namespace Nog
theorem era_perm {α : Type} : ∀ {xs : List α} {k : Nat} {x : α}, xs[k]? = some x → (x :: xs.eraseIdx k).Perm xs
  | [], k, x, h => by simp at h
  | y :: ys, 0, x, h => by simp at h; subst h; simp
  | y :: ys, k + 1, x, h => by
    have := era_perm (xs := ys) (k := k) (x := x) (by simpa using h)
    rw [List.eraseIdx_cons_succ]
    exact (List.Perm.swap y x _).trans (this.cons y)
theorem era_map {α β : Type} (f : α → β) : ∀ (xs : List α) (k : Nat), (xs.map f).eraseIdx k = (xs.eraseIdx k).map f
  | [], k => by simp
  | y :: ys, 0 => by simp
  | y :: ys, k + 1 => by rw [List.map_cons, List.eraseIdx_cons_succ, List.eraseIdx_cons_succ, List.map_cons, era_map f ys k]
/-- a link: its gap, its hand and its place -/
abbrev Lk : Type := Nat × (Nat × Nat)
abbrev gzD (Z : List Lk) : D := .tup (Z.map fun z => nD z.1)
abbrev pzD (Z : List Lk) : D := .tup (Z.map fun z => prD z.2)
structure ChI (hands g : Nat) (F : List (Nat × Nat)) (Z : List Lk) : Prop where
  g1 : 1 ≤ g
  fn : F.Nodup
  fb : ∀ x ∈ F, x.1 < hands ∧ x.2 < g
  zb : ∀ z ∈ Z, 1 ≤ z.1 ∧ z.1 ∣ g ∧ z.2.1 < hands ∧ z.2.2 < z.1
  zp : Z.Pairwise fun a b => a.2.1 = b.2.1 → ((b.2.2 : Int) - (a.2.2 : Int)) % (Nat.gcd b.1 a.1 : Nat) ≠ 0
  fz : ∀ x ∈ F, ∀ z ∈ Z, x.1 = z.2.1 → x.2 % z.1 ≠ z.2.2
theorem int_mod_eq {a b c : Nat} : ((a : Int) - (b : Int)) % (c : Nat) = 0 ↔ a % c = b % c := by
  rw [← Int.emod_eq_emod_iff_emod_sub_eq_zero]
  exact ⟨fun h => by exact_mod_cast h, fun h => by exact_mod_cast h⟩
theorem ChI.pop {hands g n : Nat} {F : List (Nat × Nat)} {Z : List Lk} {x : Nat × Nat} (h : ChI hands g F Z) (hx : F[n]? = some x) : ChI hands g (F.eraseIdx n) (Z ++ [(g, x)]) := by
  have pm := era_perm hx
  have nd : (x :: F.eraseIdx n).Nodup := pm.nodup_iff.mpr h.fn
  have xm : x ∈ F := List.mem_of_getElem? hx
  have sub : ∀ y ∈ F.eraseIdx n, y ∈ F := fun y hy => (List.eraseIdx_sublist F n).subset hy
  refine ⟨h.g1, (List.nodup_cons.mp nd).2, fun y hy => h.fb y (sub y hy), fun z hz => ?_, ?_, fun y hy z hz e => ?_⟩
  · rcases List.mem_append.mp hz with hz | hz
    · exact h.zb z hz
    · rw [List.mem_singleton] at hz; subst hz; exact ⟨h.g1, Nat.dvd_refl _, h.fb x xm⟩
  · refine List.pairwise_append.mpr ⟨h.zp, List.pairwise_singleton .., fun a ha b hb e => ?_⟩
    rw [List.mem_singleton] at hb; subst hb
    obtain ⟨z1, z2, z3, z4⟩ := h.zb a ha
    dsimp only at e ⊢
    rw [Nat.gcd_eq_right z2]
    intro q
    rw [int_mod_eq, Nat.mod_eq_of_lt z4] at q
    exact h.fz x xm a ha e.symm q
  · rcases List.mem_append.mp hz with hz | hz
    · exact h.fz y (sub y hy) z hz e
    · rw [List.mem_singleton] at hz; subst hz
      dsimp only at e ⊢
      rw [Nat.mod_eq_of_lt (h.fb y (sub y hy)).2]
      intro q
      have : y = x := Prod.ext e q
      subst this
      exact (List.nodup_cons.mp nd).1 hy
/-- the free places of a longer gap -/
def grow (g t : Nat) (x : Nat × Nat) : List (Nat × Nat) := (List.range t).map fun k => (x.1, x.2 + g * k)
theorem ChI.grow {hands g t u : Nat} {F F' : List (Nat × Nat)} {Z : List Lk} (h : ChI hands g F Z) (ht : 1 ≤ t) (hu : u ≤ t) (hs : List.Sublist F' F) : ChI hands (g * t) (F'.flatMap (Nog.grow g u)) Z := by
  have g1 := h.g1
  have mem : ∀ y ∈ F'.flatMap (Nog.grow g u), ∃ x ∈ F, ∃ k, k < u ∧ y = (x.1, x.2 + g * k) := fun y hy => by
    obtain ⟨x, hx, hy⟩ := List.mem_flatMap.mp hy
    obtain ⟨k, hk, rfl⟩ := List.mem_map.mp hy
    exact ⟨x, hs.subset hx, k, List.mem_range.mp hk, rfl⟩
  refine ⟨Nat.mul_pos g1 ht, ?_, fun y hy => ?_, fun z hz => ?_, h.zp, fun y hy z hz e => ?_⟩
  · refine List.pairwise_flatMap.mpr ⟨fun x _ => ?_, ?_⟩
    · refine List.pairwise_map.mpr (List.Pairwise.imp (fun {a b} hab q => hab ?_) List.nodup_range)
      have := congrArg Prod.snd q
      dsimp only at this
      exact Nat.eq_of_mul_eq_mul_left g1 (by omega)
    · refine List.Pairwise.imp_of_mem (fun {a b} ha hb hab p hp q hq e => hab ?_) (hs.nodup h.fn)
      obtain ⟨k, hk, rfl⟩ := List.mem_map.mp hp
      obtain ⟨j, hj, rfl⟩ := List.mem_map.mp hq
      have e1 := congrArg Prod.fst e
      have e2 := congrArg (fun z => z.2 % g) e
      dsimp only at e1 e2
      rw [Nat.add_mul_mod_self_left, Nat.add_mul_mod_self_left, Nat.mod_eq_of_lt (h.fb a (hs.subset ha)).2, Nat.mod_eq_of_lt (h.fb b (hs.subset hb)).2] at e2
      exact Prod.ext e1 e2
  · obtain ⟨x, hx, k, hk, rfl⟩ := mem y hy
    obtain ⟨f1, f2⟩ := h.fb x hx
    refine ⟨f1, ?_⟩
    have : g * (k + 1) ≤ g * t := Nat.mul_le_mul_left _ (by omega)
    rw [Nat.mul_add, Nat.mul_one] at this
    show x.2 + g * k < g * t
    omega
  · obtain ⟨z1, z2, z3⟩ := h.zb z hz
    exact ⟨z1, Nat.dvd_trans z2 (Nat.dvd_mul_right _ _), z3⟩
  · obtain ⟨x, hx, k, hk, rfl⟩ := mem y hy
    obtain ⟨z1, ⟨c, hc⟩, z3⟩ := h.zb z hz
    have := h.fz x hx z hz e
    show (x.2 + g * k) % z.1 ≠ _
    rw [hc, Nat.mul_assoc, Nat.add_mul_mod_self_left]
    exact this
def dueL (Z : List Lk) (day : Nat) : List Nat := (List.range Z.length).filter fun i => decide (day % (Z.getD i default).1 = (Z.getD i default).2.2)
theorem lk_mem {Z : List Lk} {i : Nat} (h : i < Z.length) : Z.getD i default ∈ Z := by
  rw [List.getD_eq_getElem?_getD, List.getElem?_eq_getElem h]; exact List.getElem_mem h
theorem ChI.pair {hands g : Nat} {F : List (Nat × Nat)} {Z : List Lk} (h : ChI hands g F Z) {i j : Nat} (hj : j < i) (hi : i < Z.length) (e : (Z.getD i default).2.1 = (Z.getD j default).2.1) :
    (((Z.getD i default).2.2 : Int) - ((Z.getD j default).2.2 : Int)) % (Nat.gcd (Z.getD i default).1 (Z.getD j default).1 : Nat) ≠ 0 := by
  have hjl : j < Z.length := by omega
  have := List.pairwise_iff_getElem.mp h.zp j i hjl hi hj
  rw [List.getD_eq_getElem?_getD, List.getElem?_eq_getElem hi, List.getD_eq_getElem?_getD, List.getElem?_eq_getElem hjl] at e ⊢
  exact this e.symm
theorem ChI.due {hands g : Nat} {F : List (Nat × Nat)} {Z : List Lk} (h : ChI hands g F Z) (day : Nat) : (dueL Z day).length ≤ hands := by
  have nd : ((dueL Z day).map fun i => (Z.getD i default).2.1).Nodup := by
    refine List.pairwise_map.mpr (List.Pairwise.imp_of_mem (fun {i j} hi hj hij e => ?_) (List.Pairwise.filter _ List.pairwise_lt_range))
    obtain ⟨i1, i2⟩ := List.mem_filter.mp hi
    obtain ⟨j1, j2⟩ := List.mem_filter.mp hj
    have i2 := of_decide_eq_true i2
    have j2 := of_decide_eq_true j2
    refine h.pair hij (List.mem_range.mp j1) e.symm ?_
    rw [int_mod_eq, ← i2, ← j2, Nat.mod_mod_of_dvd _ (Nat.gcd_dvd_left _ _), Nat.mod_mod_of_dvd _ (Nat.gcd_dvd_right _ _)]
  have := List.Nodup.length_le_of_subset (l₂ := List.range hands) nd fun x hx => by
    obtain ⟨i, hi, rfl⟩ := List.mem_map.mp hx
    exact List.mem_range.mpr (h.zb _ (lk_mem (List.mem_range.mp (List.mem_filter.mp hi).1))).2.2.1
  rwa [List.length_map, List.length_range] at this
theorem good_gz {k : Nat} (Z : List Lk) : (gzD Z).good (k + 1) := good_tup (goodL_map fun _ _ => good_int _)
theorem good_pr {k : Nat} (x : Nat × Nat) : (prD x).good (k + 1) := good_tup (goodL_cons (good_int _) (goodL_cons (good_int _) goodL_nil))
theorem good_pz {k : Nat} (Z : List Lk) : (pzD Z).good (k + 2) := good_tup (goodL_map fun _ _ => good_pr _)
theorem filter_no {α : Type} (l : List α) : (l.filter fun _ => false) = [] := by rw [List.filter_eq_nil_iff]; intro a _ h; cases h
namespace T
theorem isWhole_ok (m : Nat) (a : Nat) (S : Sto) : callN Pg (m + 1) i_is_whole [nD a] S = .ok (.bl true) S := by
  refine callO (f := f_is_whole.fn) rfl rfl rfl rfl rfl ?_
  show Wp _ b_is_whole [some (nD a)] [] _
  exact w_retV (r_an (t := true) (u := true) (r_isi (ev_var rfl) rfl) fun _ => r_not (t := false) (r_isi (ev_var rfl) rfl)) retD
theorem isPair_ok (m : Nat) (x : Nat × Nat) (S : Sto) : callN Pg (m + 1) i_is_pair [prD x] S = .ok (.bl true) S := by
  refine callO (f := f_is_pair.fn) rfl rfl rfl (goodL_cons (good_pr x (k := 0)) goodL_nil).1 rfl ?_
  show Wp _ b_is_pair [some (prD x)] [] _
  exact w_retV (r_an (t := true) (u := true) (r_isi (ev_var rfl) rfl) fun _ => r_cmp (r_b1 (ev_var rfl) (b_lenT _)) ev_lit (by rw [cm_eq]; rfl)) retD
theorem isWholePair_ok (m : Nat) (x : Nat × Nat) (S : Sto) : callN Pg (m + 2) i_is_whole_pair [prD x] S = .ok (.bl true) S := by
  refine callO (f := f_is_whole_pair.fn) rfl rfl rfl (goodL_cons (good_pr x (k := 0)) goodL_nil).1 rfl ?_
  show Wp _ b_is_whole_pair [some (prD x)] [] _
  exact w_retV (r_an (t := true) (u := true) (r_call (r_consV (ev_var rfl) r_nil) (isPair_ok m x _)) fun _ => r_an (t := true) (u := true) (r_call (r_consV (r_ix (ev_var rfl) ev_lit (ix_t0 ..)) r_nil) (isWhole_ok m _ _)) fun _ => r_call (r_consV (r_ix (ev_var rfl) ev_lit (ix_t1 ..)) r_nil) (isWhole_ok m _ _)) retD
theorem isPlace_ok (m : Nat) {g h : Nat} {x : Nat × Nat} (h1 : x.1 < h) (h2 : x.2 < g) (S : Sto) : callN Pg (m + 3) i_is_place [nD g, nD h, prD x] S = .ok (.bl true) S := by
  refine callO (f := f_is_place.fn) rfl rfl rfl (goodL_cons (good_int _) (goodL_cons (good_int _) (goodL_cons (good_pr x (k := 0)) goodL_nil))).1 rfl ?_
  show Wp _ b_is_place [some (nD g), some (nD h), some (prD x)] [] _
  have ch : ∀ {a b : Nat} {S : Sto}, a < b → (cmP .le S (.val (.int 0)) (.val (nD a)) = some true) ∧ cmP .lt S (.val (nD a)) (.val (nD b)) = some true := fun {a b S} h => ⟨(cm_leN (a := 0)).trans (by rw [decide_eq_true (Nat.zero_le _)]), by rw [cm_ltN, decide_eq_true h]⟩
  exact w_retV (r_an (t := true) (u := true) (r_call (r_consV (ev_var rfl) r_nil) (isWholePair_ok m x _)) fun _ => r_an (t := true) (u := true) (r_chn (t := true) (u := true) ev_lit (r_ix (ev_var rfl) ev_lit (ix_t0 ..)) (ch h1).1 fun _ => ⟨_, ev_var rfl, (ch h1).2⟩) fun _ => r_chn (t := true) (u := true) ev_lit (r_ix (ev_var rfl) ev_lit (ix_t1 ..)) (ch h2).1 fun _ => ⟨_, ev_var rfl, (ch h2).2⟩) retD
theorem chainPlaces_ok (m : Nat) {hands g : Nat} {F : List (Nat × Nat)} {Z : List Lk} (h : ChI hands g F Z) (hl : Z.length ≤ 1000) (S : Sto) : callN Pg (m + 4) i_is_chain_places [gzD Z, nD hands, pzD Z] S = .ok (.bl true) S := by
  refine callO (f := f_is_chain_places.fn) rfl rfl rfl (goodL_cons (good_gz Z (k := 1)) (goodL_cons (good_int _) (goodL_cons (good_pz Z (k := 0)) goodL_nil))).1 rfl ?_
  show Wp _ b_is_chain_places [some (gzD Z), some (nD hands), some (pzD Z), none, none, none] [] _
  have lz : ∀ {β : Type} (f : Lk → β), ((Z.map f).length : Int) = Z.length := fun f => by rw [List.length_map]
  refine w_iff (t := false) (r_or (t := false) (u := false) (r_not (t := true) (r_isi (ev_var rfl) rfl)) fun _ => r_cmp (r_b1 (ev_var rfl) (b_lenT _)) (r_b1 (ev_var rfl) (b_lenT _)) (by rw [lz, lz, cm_ne]; simp)) rfl (fun h => by cases h) (fun _ => w_end ?_)
  have hc := r_lc (C := callN Pg (m + 3)) (σ := [some (gzD Z), some (nD hands), some (pzD Z), none, none, none]) (S := []) (own := [3, 4]) (elt := .var 3) (tg := .tp [3, 4]) (ifs := [(.nt (.call i_is_place [(.var 4), (.var 1), (.ix (.var 2) (.var 3))]))]) (as := List.range Z.length) (fun i => false) nD
    (r_enu (ev_var (i := 0) rfl) (sq_tup ..)) (it_its ..) (enum0 (f := fun z : Lk => nD z.1) Z) rfl rfl fun i hi => by
      have hi2 := List.mem_range.mp hi
      obtain ⟨z1, z2, z3, z4⟩ := h.zb _ (lk_mem hi2)
      exact lcStep_if rfl (r_if1 (r_not (t := true) (r_call (r_consV (ev_var rfl) (r_consV (ev_var rfl) (r_consV (r_ix (ev_var rfl) (ev_var rfl) (ix_map (f := fun z : Lk => prD z.2) hi2)) r_nil))) (isPlace_ok m z3 z4 _))) rfl) fun h => by cases h
  rw [filter_no] at hc
  refine w_iff (t := false) (r_cmp (r_b1 hc (b_lenF _)) ev_lit (by rw [cm_gt]; rfl)) rfl (fun h => by cases h) (fun _ => w_end ?_)
  refine w_fr (as := List.range Z.length) (enc := fun i => D.tup [nD i, nD (Z.getD i default).1]) (fun pre σ S => ∃ x y z : Option D, σ = [some (gzD Z), some (nD hands), some (pzD Z), x, y, z] ∧ S = [])
    (r_enu (ev_var rfl) (sq_tup ..)) (it_its ..) (enum0 (f := fun z : Lk => nD z.1) Z) rfl ⟨_, _, _, rfl, rfl⟩ (fun _ _ _ _ => rfl) (fun pre i post σ S e ⟨x, y, z, hσ, hS⟩ => ?_) (fun σ S ⟨x, y, z, hσ, hS⟩ => ?_)
  · subst hσ hS
    refine ⟨_, rfl, ?_⟩
    have hi : i < Z.length := List.mem_range.mp (by rw [e]; simp)
    refine w_fr (as := List.range i) (enc := nD) (fun pre σ S => ∃ z : Option D, σ = [some (gzD Z), some (nD hands), some (pzD Z), some (nD i), some (nD (Z.getD i default).1), z] ∧ S = [])
      (r_rg1 (ev_var rfl) (by omega) (by omega)) (it_rng ..) (rngL0 _) rfl ⟨_, rfl, rfl⟩ (fun _ _ _ _ => rfl) (fun pre j post σ S e ⟨z, hσ, hS⟩ => ?_) (fun σ S ⟨z, hσ, hS⟩ => ?_)
    · subst hσ hS
      refine ⟨_, rfl, ?_⟩
      have hj : j < i := List.mem_range.mp (by rw [e]; simp)
      have hjl : j < Z.length := by omega
      have pi := ix_map (S := []) (f := fun z : Lk => prD z.2) hi
      have pj := ix_map (S := []) (f := fun z : Lk => prD z.2) hjl
      refine w_iff (t := decide ((Z.getD i default).2.1 = (Z.getD j default).2.1)) (r_cmp (r_ix (r_ix (ev_var rfl) (ev_var rfl) pi) ev_lit (ix_t0 ..)) (r_ix (r_ix (ev_var rfl) (ev_var rfl) pj) ev_lit (ix_t0 ..)) cm_eqN) rfl (fun he => ?_) (fun _ => w_end (w_nil ⟨_, rfl, rfl⟩))
      have hd := h.pair hj hi (of_decide_eq_true he)
      have gp : 0 < Nat.gcd (Z.getD i default).1 (Z.getD j default).1 := Nat.gcd_pos_of_pos_left _ (h.zb _ (lk_mem hi)).1
      refine w_iff (t := false) (r_cmp (r_bin (r_bin (r_ix (r_ix (ev_var rfl) (ev_var rfl) pi) ev_lit (ix_t1 ..)) (r_ix (r_ix (ev_var rfl) (ev_var rfl) pj) ev_lit (ix_t1 ..)) op_subI) (r_b2 (ev_var rfl) (r_ix (ev_var rfl) (ev_var rfl) (ix_map (f := fun z : Lk => nD z.1) hjl)) (b_gcdN _ _)) (op_modI (by omega))) ev_lit (by rw [cm_eq, decide_eq_false hd])) rfl (fun h => by cases h) (fun _ => w_end (w_end (w_nil ⟨_, rfl, rfl⟩)))
    · subst hσ hS
      exact w_nil ⟨_, _, _, rfl, rfl⟩
  · subst hσ hS
    exact w_retV ev_lit retD
theorem chainLot_ok (m : Nat) {Z : List Lk} (hz : ∀ z ∈ Z, 1 ≤ z.1) (day : Nat) (S : Sto) : callN Pg (m + 1) i_chain_lot [gzD Z, pzD Z, nD day] S = .ok (lotD (dueL Z day)) S := by
  refine callO (f := f_chain_lot.fn) rfl rfl rfl (goodL_cons (good_gz Z (k := 1)) (goodL_cons (good_pz Z (k := 0)) (goodL_cons (good_int _) goodL_nil))).1 (good_lot _ (k := 0)).1 ?_
  show Wp _ b_chain_lot [some (gzD Z), some (pzD Z), some (nD day), none, none] [] _
  refine w_retV (r_b1 (r_lc (as := List.range Z.length) (fun i => decide (day % (Z.getD i default).1 = (Z.getD i default).2.2)) nD (r_enu (ev_var rfl) (sq_tup ..)) (it_its ..) (enum0 (f := fun z : Lk => nD z.1) Z) rfl rfl fun i hi => ?_) (b_tupF ..)) retD
  have hi2 := List.mem_range.mp hi
  exact lcStep_if rfl (r_if1 (r_cmp (r_bin (ev_var rfl) (ev_var rfl) (op_modN (hz _ (lk_mem hi2)))) (r_ix (r_ix (ev_var rfl) (ev_var rfl) (ix_map (f := fun z : Lk => prD z.2) hi2)) ev_lit (ix_t1 ..)) cm_eqN) rfl) fun _ => ev_var rfl
end T
end Nog

set_option Elab.async false
set_option linter.all false
set_option maxRecDepth 100000
set_option maxHeartbeats 4000000
/-! k99: plans -/
namespace Nog
theorem sl_from {α : Type} (xs : List α) (k : Nat) : slicL xs (some (k : Int)) none = xs.drop k := by
  unfold slicL
  simp only [cutAt]
  rw [if_neg (by omega), Int.toNat_natCast]
  by_cases h : k ≤ xs.length
  · rw [Nat.min_eq_left h, List.take_of_length_le (by rw [List.length_drop]; exact Nat.le_refl _)]
  · rw [Nat.min_eq_right (by omega), List.drop_length, List.drop_eq_nil_of_le (by omega)]; simp
theorem sl_to {α : Type} (xs : List α) (k : Nat) : slicL xs none (some (k : Int)) = xs.take k := by
  unfold slicL
  simp only [cutAt, List.drop_zero, Nat.sub_zero]
  rw [if_neg (by omega), Int.toNat_natCast]
  by_cases h : k ≤ xs.length
  · rw [Nat.min_eq_left h]
  · rw [Nat.min_eq_right (by omega), List.take_of_length_le (Nat.le_refl _), List.take_of_length_le (by omega)]
theorem slP_tup {S : Sto} {u v : Option Int} (xs : List D) : slP S (.val (.tup xs)) u v = .ok (.val (.tup (slicL xs u v))) S := rfl
section
variable {C : Call} {σ : Env} {S S1 S2 : Sto} {a b : E}
theorem r_slF {xs : List D} {k : Nat} (h : ev C a σ S = .ok (.val (.tup xs)) S1) (h1 : ev C b σ S1 = .ok (.val (nD k)) S2) (hb : ∀ q, partOf b q = match q with
    | .val (.int i) => some (some i)
    | _ => none) : ev C (.sl a b (.lit .non)) σ S = .ok (.val (.tup (xs.drop k))) S2 := by
  have := r_sl (C := C) (σ := σ) (S := S) (a := a) (lo := b) (hi := .lit .non) (u := some (k : Int)) (v := none) h h1 (by rw [hb]) ev_lit rfl (slP_tup xs)
  rwa [sl_from] at this
theorem r_slT {xs : List D} {k : Nat} (h : ev C a σ S = .ok (.val (.tup xs)) S1) (h1 : ev C b σ S1 = .ok (.val (nD k)) S2) (hb : ∀ q, partOf b q = match q with
    | .val (.int i) => some (some i)
    | _ => none) : ev C (.sl a (.lit .non) b) σ S = .ok (.val (.tup (xs.take k))) S2 := by
  have := r_sl (C := C) (σ := σ) (S := S) (a := a) (lo := .lit .non) (hi := b) (u := none) (v := some (k : Int)) h ev_lit rfl h1 (by rw [hb]) (slP_tup xs)
  rwa [sl_to] at this
end
/-- which lot a plan gives -/
def plotR (hd rg : Row) (day : Nat) : List Nat := if day < hd.length then hd.getD day [] else rg.getD ((day - hd.length) % rg.length) []
def movR (hd rg : Row) (many : Nat) : Row × Row := if many ≤ hd.length then (hd.drop many, rg) else ([], rg.drop ((many - hd.length) % rg.length) ++ rg.take ((many - hd.length) % rg.length))
abbrev planD (hd rg : Row) : D := .tup [rowD hd, rowD rg]
theorem good_plan {k : Nat} (a b : Row) : (planD a b).good (k + 3) := good_tup (goodL_cons (good_row _) (goodL_cons (good_row _) goodL_nil))
theorem sz_row {r : Row} {k : Nat} (h : ∀ l ∈ r, l.length ≤ k) : (rowD r).sz ≤ r.length * (k + 1) + 1 := by
  rw [D.sz]
  have := szL_map (f := lotD) (k := k + 1) (l := r) fun l hl => by rw [sz_lot]; exact Nat.succ_le_succ (h l hl)
  omega
theorem sz_plan {a b : Row} {k : Nat} (h : ∀ l ∈ a, l.length ≤ k) (h2 : ∀ l ∈ b, l.length ≤ k) : (planD a b).sz ≤ (a.length + b.length) * (k + 1) + 3 := by
  have h1 := sz_row h
  have h3 := sz_row h2
  rw [Nat.add_mul]
  show D.sz (.tup [rowD a, rowD b]) ≤ _
  rw [D.sz, D.szL, D.szL, D.szL]
  omega
theorem len_rowD {S : Sto} (r : Row) : bi1 .len S (.val (rowD r)) = .ok (.val (nD r.length)) S := by rw [b_lenT, List.length_map]
namespace T
theorem planlot_ok (m : Nat) (hd rg : Row) (day : Nat) (h : 0 < rg.length) (S : Sto) : callN Pg (m + 1) i_plan_lot [planD hd rg, nD day] S = .ok (lotD (plotR hd rg day)) S := by
  refine callO (f := f_plan_lot.fn) rfl rfl rfl (goodL_cons (good_plan (k := 0) hd rg) (goodL_cons (good_int _) goodL_nil)).1 (good_lot _ (k := 0)).1 ?_
  show Wp _ b_plan_lot [some (planD hd rg), some (nD day), none, none] [] _
  refine w_asgV (ev_var rfl) rfl ?_
  refine w_iff (t := decide (day < hd.length)) (r_cmp (ev_var rfl) (r_b1 (ev_var rfl) (len_rowD _)) cm_ltN) rfl (fun hp => ?_) (fun hp => w_end ?_)
  · have h1 : day < hd.length := of_decide_eq_true hp
    refine w_retV (r_ix (ev_var rfl) (ev_var rfl) (ix_map h1)) ?_
    unfold plotR
    rw [if_pos h1]
    exact retD
  · have h1 : ¬ day < hd.length := of_decide_eq_false hp
    refine w_retV (r_ix (ev_var rfl) (r_bin (r_bin (ev_var rfl) (r_b1 (ev_var rfl) (len_rowD _)) (op_subN (by omega))) (r_b1 (ev_var rfl) (len_rowD _)) (op_modN h)) (ix_map (Nat.mod_lt _ h))) ?_
    unfold plotR
    rw [if_neg h1]
    exact retD
theorem movedplan_ok (m : Nat) (hd rg : Row) (many : Nat) (h : 0 < rg.length) (hl : rg.length ≤ 1000) (S : Sto) : callN Pg (m + 1) i_moved_plan [planD hd rg, nD many] S = .ok (planD (movR hd rg many).1 (movR hd rg many).2) S := by
  refine callO (f := f_moved_plan.fn) rfl rfl rfl (goodL_cons (good_plan (k := 0) hd rg) (goodL_cons (good_int _) goodL_nil)).1 (good_plan _ _ (k := 0)).1 ?_
  show Wp _ b_moved_plan [some (planD hd rg), some (nD many), none, none, none] [] _
  refine w_asgV (ev_var rfl) rfl ?_
  refine w_iff (t := decide (many ≤ hd.length)) (r_cmp (ev_var rfl) (r_b1 (ev_var rfl) (len_rowD _)) cm_leN) rfl (fun hp => ?_) (fun hp => w_end ?_)
  · have h1 : many ≤ hd.length := of_decide_eq_true hp
    refine w_retV (r_tup (r_consV (r_slF (ev_var rfl) (ev_var rfl) fun _ => rfl) (r_consV (ev_var rfl) r_nil))) ?_
    unfold movR
    rw [if_pos h1, ← List.map_drop]
    exact retD
  · have h1 : ¬ many ≤ hd.length := of_decide_eq_false hp
    refine w_asgV (r_bin (r_bin (ev_var rfl) (r_b1 (ev_var rfl) (len_rowD _)) (op_subN (by omega))) (r_b1 (ev_var rfl) (len_rowD _)) (op_modN h)) rfl ?_
    refine w_retV (r_tup (r_consV (r_tup r_nil) (r_consV (r_bin (r_slF (ev_var rfl) (ev_var rfl) fun _ => rfl) (r_slT (ev_var rfl) (ev_var rfl) fun _ => rfl) (op_addT _ _ _ (by simp [lim]; omega))) r_nil))) ?_
    unfold movR
    rw [if_neg h1, ← List.map_drop, ← List.map_take, ← List.map_append]
    exact retD
theorem plans_ok (m : Nat) {T S : Sto} (h : PlS T S) : ∃ T' S', callN Pg (m + 4) i_L_plans [.ref 1] S = .ok (.bl true) S' ∧ PlS T' S' := by
  refine callR (P := Pg) (m := m + 3) (k := i_L_plans) (as := [.ref 1]) (f := f_L_plans.fn) rfl rfl rfl (Q := fun z => ∃ T' S', z = .ok (.bl true) S' ∧ PlS T' S') ?_
  show Wp _ b_L_plans [some (.ref 1), none, none, none, none, none, none, none, none, none, none] S _
  obtain ⟨c, S1, c1, h1, l1⟩ := draw_ok (m + 2) (k := 6) (by omega) (by omega) h
  refine w_asgV (r_bin ev_lit (r_call (r_consV (ev_var rfl) (r_consV ev_lit r_nil)) c1) (op_addN (a := 1))) rfl ?_
  refine w_asg (r_lst r_nil) rfl rfl ?_
  have h2 := h1.app [.lst []]
  have p0 := look_new T (.lst [])
  rw [h1.len]
  generalize S1 ++ [O.lst []] = S2 at h2
  obtain ⟨tn, S3, c3, h3, l3⟩ := draw_ok (m + 2) (k := 12) (by omega) (by omega) h2
  refine w_fr (as := List.range (1 + tn)) (enc := nD) (fun pre σ S => ∃ (T' : Sto) (R : Row) (z : Option D), PlS T' S ∧ T'[T.length]? = some (.lst (R.map lotD)) ∧ R.length = pre.length ∧ (∀ l ∈ R, l.length ≤ 6) ∧ σ = [some (.ref 1), some (nD (1 + c)), some (.ref (T.length + 2)), z, none, none, none, none, none, none, none])
    (r_rg1 (r_bin ev_lit (r_call (r_consV (ev_var rfl) (r_consV ev_lit r_nil)) c3) (op_addN (a := 1))) (by omega) (by omega)) (it_rng ..) (rngL0 _) rfl ⟨_, [], none, h3, p0, rfl, by simp, rfl⟩ (fun _ _ _ _ => rfl) (fun pre i post σ S e ⟨T', R, z, hP, g0, hn, hR, hσ⟩ => ?_) (fun σ S ⟨T', R, z, hP, g0, hn, hR, hσ⟩ => ?_)
  · subst hσ
    refine ⟨_, rfl, ?_⟩
    have hpre : pre.length < 1 + tn := by have := congrArg List.length e; simp at this; omega
    obtain ⟨bs, S4, c4, h4, sb⟩ := r_lcx3 (C := callN Pg (m + 3)) (σ := [some (.ref 1), some (nD (1 + c)), some (.ref (T.length + 2)), some (nD i), none, none, none, none, none, none, none]) (S := S) (own := [10]) (tg := .nm 10) (elt := .var 10) (ifs := [(.cmp .eq (.call i_L_draw [(.var 0), (.lit (.int 2))]) (.lit (.int 0)))]) (as := List.range (1 + c)) (enc := nD)
      (fun S => PlS T' S) (r_rg1 (ev_var (i := 1) rfl) (by omega) (by omega)) (it_rng ..) (rngL0 _) rfl hP (fun _ _ => rfl) fun d hd S hS => by
        obtain ⟨j1, Sa, ca, ha, la⟩ := draw_ok (m + 2) (k := 2) (by omega) (by omega) hS
        exact ⟨decide (j1 = 0), Sa, lcStep_ifS rfl (r_if1 (r_cmp (r_call (r_consV (ev_var rfl) (r_consV ev_lit r_nil)) ca) ev_lit (cm_eqN (b := 0))) rfl) fun _ => ev_var rfl, ha⟩
    have q0 : S[T.length + 2]? = some (.lst (R.map lotD)) := (hP.get _).trans g0
    have q1 : S4[T.length + 2]? = some (.lst (R.map lotD)) := (h4.get _).trans g0
    have bl := sb.length_le
    rw [List.length_range] at bl
    refine w_ex (r_ms (ev_var rfl) (on_lst rfl q0) (r_consV (r_b1 c4 (b_tupF _)) r_nil) (ms_append q1 (by rw [List.length_map]; unfold lim; omega))) (w_nil ⟨_, R ++ [bs], _, h4.set T.length (.lst (R.map lotD ++ [lotD bs])), by rw [List.map_append]; exact look_put g0, by simp [hn], fun l hl => ?_, rfl⟩)
    rcases List.mem_append.mp hl with hl | hl
    · exact hR l hl
    · rw [List.mem_singleton] at hl; subst hl; omega
  subst hσ
  rw [List.length_range] at hn
  have q0 : S[T.length + 2]? = some (.lst (R.map lotD)) := (hP.get _).trans g0
  refine w_ex (r_ms (ev_var rfl) (on_lst rfl q0) (r_consV (r_b1 (r_rg1 (ev_var rfl) (by omega) (by omega)) (q := .val (lotD (List.range (1 + c)))) (by show Rs.ok _ _ = _; rw [rngL0])) r_nil) (ms_append q0 (by rw [List.length_map]; unfold lim; omega))) ?_
  have h5 := hP.set T.length (.lst (R.map lotD ++ [lotD (List.range (1 + c))]))
  have q5 : (S.set (T.length + 2) (.lst (R.map lotD ++ [lotD (List.range (1 + c))])))[T.length + 2]? = some (.lst ((R ++ [List.range (1 + c)]).map lotD)) := by rw [List.map_append]; exact look_put q0
  have hR2 : ∀ l ∈ R ++ [List.range (1 + c)], l.length ≤ 6 := fun l hl => by
    rcases List.mem_append.mp hl with hl | hl
    · exact hR l hl
    · rw [List.mem_singleton] at hl; subst hl; rw [List.length_range]; omega
  have hRl : (R ++ [List.range (1 + c)]).length = tn + 2 := by simp [hn]; omega
  generalize R ++ [List.range (1 + c)] = R2 at q5 hR2 hRl
  generalize S.set (T.length + 2) _ = S5 at h5 q5
  obtain ⟨ys, T6, S6, l6, c6, h6, g6, pm⟩ := shuffled_ok (m + 1) h5 q5 (by rw [List.length_map]; omega)
  obtain ⟨rg, rfl, hrg⟩ := exists_map (f := lotD) (P := fun l => l.length ≤ 6) (ys := ys) fun y hy => by
    obtain ⟨a, ha, rfl⟩ := List.mem_map.mp (pm.mem_iff.mp hy)
    exact ⟨a, rfl, hR2 a ha⟩
  have rl : rg.length = tn + 2 := by have := pm.length_eq; simpa [hRl] using this
  refine w_asgV (r_b1 (r_call (r_consV (ev_var rfl) (r_consV (ev_var rfl) r_nil)) c6) (b_tupR g6)) rfl ?_
  obtain ⟨hn, S7, c7, h7, l7⟩ := draw_ok (m + 2) (k := rg.length) (by omega) (by omega) h6
  refine w_asgV (r_slF (k := rg.length - hn) (ev_var rfl) (r_bin (r_b1 (ev_var rfl) (len_rowD rg)) (r_call (r_consV (ev_var rfl) (r_consV (r_b1 (ev_var rfl) (len_rowD rg)) r_nil)) c7) (op_subN (by omega))) fun _ => rfl) rfl ?_
  rw [← List.map_drop]
  have hhl : (rg.drop (rg.length - hn)).length ≤ 13 := by rw [List.length_drop]; omega
  have hhd : ∀ l ∈ rg.drop (rg.length - hn), l.length ≤ 6 := fun l hl => hrg l (List.mem_of_mem_drop hl)
  generalize rg.drop (rg.length - hn) = hd at hhl hhd
  refine w_asgV (r_tup (r_consV (ev_var rfl) (r_consV (ev_var rfl) r_nil))) rfl ?_
  refine w_fr (as := List.range 4) (enc := nD) (fun pre σ S => ∃ (x y z u v w : Option D), PlS T6 S ∧ σ = [some (.ref 1), some (nD (1 + c)), some (rowD rg), x, some (rowD hd), some (planD hd rg), y, z, u, v, w])
    (r_rg1 ev_lit (by omega) (by omega)) (it_rng ..) (rngL0 4) rfl ⟨_, _, _, _, _, _, h7, rfl⟩ (fun _ _ _ _ => rfl) (fun pre i post σ S e ⟨x, y, z, u, v, w, hP, hσ⟩ => ?_) (fun σ S ⟨x, y, z, u, v, w, hP, hσ⟩ => ?_)
  · subst hσ
    refine ⟨_, rfl, ?_⟩
    obtain ⟨day, S8, c8, h8, l8⟩ := day_ok (m + 1) hP
    refine w_asgV (r_call (r_consV (ev_var rfl) r_nil) c8) rfl ?_
    have rp : 0 < rg.length := by omega
    refine w_asgV (d := lotD (plotR hd rg day)) (S1 := S8) (r_ite (t := decide (day < hd.length)) (r_cmp (ev_var rfl) (r_b1 (ev_var rfl) (len_rowD hd)) cm_ltN) rfl (fun hp => ?_) (fun hp => ?_)) rfl ?_
    · have h1 : day < hd.length := of_decide_eq_true hp
      unfold plotR
      rw [if_pos h1]
      exact r_ix (ev_var rfl) (ev_var rfl) (ix_map h1)
    · have h1 : ¬ day < hd.length := of_decide_eq_false hp
      unfold plotR
      rw [if_neg h1]
      exact r_ix (ev_var rfl) (r_bin (r_b1 (r_bin (ev_var rfl) (r_b1 (ev_var rfl) (len_rowD hd)) (op_subN (by omega))) (b_intI _)) (r_b1 (ev_var rfl) (len_rowD rg)) (op_modN rp)) (ix_map (Nat.mod_lt _ rp))
    have pl : (plotR hd rg day).length ≤ 6 := by
      unfold plotR
      have gd : ∀ (r : Row) (k : Nat), (∀ l ∈ r, l.length ≤ 6) → (r.getD k []).length ≤ 6 := fun r k hr => by
        by_cases hk : k < r.length
        · rw [List.getD_eq_getElem?_getD, List.getElem?_eq_getElem hk]; exact hr _ (List.getElem_mem hk)
        · rw [List.getD_eq_getElem?_getD, List.getElem?_eq_none (by omega)]; simp
      split
      · exact gd _ _ hhd
      · exact gd _ _ hrg
    refine w_iff (t := false) (r_not (t := true) (r_call (r_consV (r_call (r_consV (ev_var rfl) (r_consV (ev_var rfl) r_nil)) (planlot_ok (m + 2) hd rg day rp _)) (r_consV (ev_var rfl) r_nil)) (same_ok (m + 2) (good_up (good_lot _ (k := 0)) (by decide)) (by rw [sz_lot]; omega) _))) rfl (fun h => by cases h) (fun _ => w_end ?_)
    obtain ⟨n1, S9, c9, h9, l9⟩ := draw_ok (m + 2) (k := 30) (by omega) (by omega) h8
    obtain ⟨n2, S10, c10, h10, l10⟩ := day_ok (m + 1) h9
    obtain ⟨n3, S11, c11, h11, l11⟩ := draw_ok (m + 2) (k := 2) (by omega) (by omega) h10
    obtain ⟨many, hx⟩ : ∃ many : Nat, ixP S11 (.val (.tup [nD n1, nD n2])) (.val (nD n3)) = some (nD many) := by
      have : n3 = 0 ∨ n3 = 1 := by omega
      rcases this with rfl | rfl
      · exact ⟨n1, rfl⟩
      · exact ⟨n2, rfl⟩
    refine w_asgV (r_ix (r_tup (r_consV (r_call (r_consV (ev_var rfl) (r_consV ev_lit r_nil)) c9) (r_consV (r_call (r_consV (ev_var rfl) r_nil) c10) r_nil))) (r_call (r_consV (ev_var rfl) (r_consV ev_lit r_nil)) c11) hx) rfl ?_
    refine w_asgV (d := nD (if hd.length < many then (many - hd.length) % rg.length else 0)) (S1 := S11) (r_ite (t := decide (hd.length < many)) (r_cmp (ev_var rfl) (r_b1 (ev_var rfl) (len_rowD hd)) cm_gtN) rfl (fun hp => ?_) (fun hp => ?_)) rfl ?_
    · have h1 : hd.length < many := of_decide_eq_true hp
      rw [if_pos h1]
      exact r_bin (r_b1 (r_bin (ev_var rfl) (r_b1 (ev_var rfl) (len_rowD hd)) (op_subN (by omega))) (b_intI _)) (r_b1 (ev_var rfl) (len_rowD rg)) (op_modN rp)
    · have h1 : ¬ hd.length < many := of_decide_eq_false hp
      rw [if_neg h1]
      exact ev_lit
    have mv : movR hd rg many = (hd.drop (min many hd.length), rg.drop (if hd.length < many then (many - hd.length) % rg.length else 0) ++ rg.take (if hd.length < many then (many - hd.length) % rg.length else 0)) := by
      unfold movR
      by_cases hp : many ≤ hd.length
      · rw [if_pos hp, if_neg (by omega), Nat.min_eq_left hp]; simp
      · rw [if_neg hp, if_pos (by omega), Nat.min_eq_right (by omega), List.drop_length]
    have mvl : ∀ l ∈ (movR hd rg many).2, l.length ≤ 6 := by
      rw [mv]
      intro l hl
      rcases List.mem_append.mp hl with hl | hl
      · exact hrg l (List.mem_of_mem_drop hl)
      · exact hrg l (List.mem_of_mem_take hl)
    have mvh : ∀ l ∈ (movR hd rg many).1, l.length ≤ 6 := by
      rw [mv]
      exact fun l hl => hhd l (List.mem_of_mem_drop hl)
    have ml1 : (movR hd rg many).1.length ≤ 13 := by rw [mv]; simp; omega
    have ml2 : (movR hd rg many).2.length ≤ 26 := by rw [mv]; simp; omega
    have rgl : rg.length ≤ 13 := by omega
    have hv : planD (movR hd rg many).1 (movR hd rg many).2 = .tup [.tup ((hd.map lotD).drop (min many hd.length)), .tup ((rg.map lotD).drop (if hd.length < many then (many - hd.length) % rg.length else 0) ++ (rg.map lotD).take (if hd.length < many then (many - hd.length) % rg.length else 0))] := by
      rw [mv, ← List.map_drop, ← List.map_drop, ← List.map_take, ← List.map_append]
    refine w_iff (t := false) (r_not (t := true) (r_call (r_consV (r_call (r_consV (ev_var rfl) (r_consV (ev_var rfl) r_nil)) (movedplan_ok (m + 2) hd rg many rp (by omega) S11)) (r_consV (d := planD (movR hd rg many).1 (movR hd rg many).2) (S1 := S11) (by
      rw [hv]
      exact r_tup (r_consV (r_slF (ev_var rfl) (r_b2 (ev_var rfl) (r_b1 (ev_var rfl) (len_rowD hd)) (b_min2N _ _)) fun _ => rfl) (r_consV (r_bin (r_slF (ev_var rfl) (ev_var rfl) fun _ => rfl) (r_slT (ev_var rfl) (ev_var rfl) fun _ => rfl) (op_addT _ _ _ (by simp [lim]; omega))) r_nil))) r_nil)) (same_ok (m + 2) (good_up (good_plan _ _ (k := 0)) (by decide)) (by have := sz_plan mvh mvl; omega) S11))) rfl (fun h => by cases h) (fun _ => w_end (w_nil ⟨_, _, _, _, _, _, h11, rfl⟩))
  · subst hσ
    exact w_retV ev_lit ⟨T6, S, rfl, hP⟩
end T
end Nog

set_option Elab.async false
set_option linter.all false
set_option maxRecDepth 100000
set_option maxHeartbeats 16000000
/-! k99: _law_chains -/
namespace Nog
/-- where the free places (a), the gaps and the places stand -/
structure ChS (L : Nat) (T : Sto) (a : Nat) (F : List (Nat × Nat)) (Z : List Lk) : Prop where
  f : T[a]? = some (.lst (F.map prD))
  g : T[L + 1]? = some (.lst (Z.map fun z => nD z.1))
  p : T[L + 2]? = some (.lst (Z.map fun z => prD z.2))
  n1 : a ≠ L + 1
  n2 : a ≠ L + 2
theorem grow_len {g u : Nat} (F : List (Nat × Nat)) : (F.flatMap (grow g u)).length = F.length * u := by
  induction F with
  | nil => simp
  | cons x F ih => rw [List.flatMap_cons, List.length_append, ih]; unfold grow; rw [List.length_map, List.length_range, List.length_cons, Nat.add_mul]; omega
namespace T
theorem chains_ok (m : Nat) {T S : Sto} (h : PlS T S) : ∃ T' S', callN Pg (m + 5) i_L_chains [.ref 1] S = .ok (.bl true) S' ∧ PlS T' S' := by
  refine callR (P := Pg) (m := m + 4) (k := i_L_chains) (as := [.ref 1]) (f := f_L_chains.fn) rfl rfl rfl (Q := fun z => ∃ T' S', z = .ok (.bl true) S' ∧ PlS T' S') ?_
  show Wp _ b_L_chains [some (.ref 1), none, none, none, none, none, none, none, none, none, none, none, none, none, none, none] S _
  obtain ⟨c1, S1, e1, h1, l1⟩ := draw_ok (m + 3) (k := 3) (by omega) (by omega) h
  refine w_asgV (r_bin ev_lit (r_call (r_consV (ev_var rfl) (r_consV ev_lit r_nil)) e1) (op_addN (a := 1))) rfl ?_
  obtain ⟨c2, S2, e2, h2, l2⟩ := draw_ok (m + 3) (k := 3) (by omega) (by omega) h1
  refine w_asgV (r_bin ev_lit (r_call (r_consV (ev_var rfl) (r_consV ev_lit r_nil)) e2) (op_addN (a := 1))) rfl ?_
  obtain ⟨hands, hhd⟩ : ∃ hands, 1 + c1 = hands := ⟨_, rfl⟩
  obtain ⟨gap, hgp⟩ : ∃ gap, 1 + c2 = gap := ⟨_, rfl⟩
  rw [hhd, hgp]
  have hh3 : hands ≤ 3 := by omega
  have hg3 : gap ≤ 3 := by omega
  have hg1 : 1 ≤ gap := by omega
  refine w_asg (r_lst r_nil) rfl rfl ?_
  have h3 := h2.app [.lst []]
  have p3 := look_new T (.lst [])
  have len3 : (T ++ [O.lst []]).length = T.length + 1 := by simp
  rw [h2.len]
  generalize S2 ++ [O.lst []] = S3 at h3
  refine w_fr (as := List.range hands) (enc := nD) (fun pre σ S => ∃ (T' : Sto) (F : List (Nat × Nat)) (z : Option D), PlS T' S ∧ T'.length = T.length + 1 ∧ T'[T.length]? = some (.lst (F.map prD)) ∧ F.Nodup ∧ (∀ x ∈ F, x.1 ∈ pre ∧ x.2 < gap) ∧ F.length ≤ 3 * pre.length ∧ σ = [some (.ref 1), some (nD hands), some (nD gap), some (.ref (T.length + 2)), z, none, none, none, none, none, none, none, none, none, none, none])
    (r_rg1 (ev_var rfl) (by omega) (by omega)) (it_rng ..) (rngL0 _) rfl ⟨_, [], none, h3, len3, p3, List.nodup_nil, fun x hx => (by cases hx), by simp, rfl⟩ (fun _ _ _ _ => rfl) (fun pre i post σ S e ⟨T', F, z, hP, lT, g0, nd, fb, fl, hσ⟩ => ?_) (fun σ S ⟨T', F, z, hP, lT, g0, nd, fb, fl, hσ⟩ => ?_)
  · subst hσ
    refine ⟨_, rfl, ?_⟩
    have hpre : pre.length < hands := by have := congrArg List.length e; simp at this; omega
    have hni : i ∉ pre := by
      have : (pre ++ i :: post).Nodup := by rw [← e]; exact List.nodup_range
      exact fun hi => (List.nodup_append.mp this).2.2 i hi i (by simp) rfl
    have q0 : S[T.length + 2]? = some (.lst (F.map prD)) := (hP.get _).trans g0
    have hc := r_lcm (C := callN Pg (m + 4)) (σ := [some (.ref 1), some (nD hands), some (nD gap), some (.ref (T.length + 2)), some (nD i), none, none, none, none, none, none, none, none, none, none, none]) (S := S) (own := [13]) (tg := .nm 13) (elt := .tup [(.var 4), (.var 13)]) (as := List.range gap) (enc := nD) (fun r => prD (i, r))
      (r_rg1 (ev_var (i := 2) rfl) (by omega) (by omega)) (it_rng ..) (rngL0 _) rfl rfl fun r hr => lcStep_all rfl (r_tup (r_consV (ev_var rfl) (r_consV (ev_var rfl) r_nil)))
    refine w_ex (r_ext (ev_var rfl) q0 hc (by rw [List.length_append, List.length_map, List.length_map, List.length_range]; unfold lim; omega)) (w_nil ⟨_, F ++ (List.range gap).map fun r => (i, r), _, hP.set T.length (.lst (F.map prD ++ (List.range gap).map fun r => prD (i, r))), by rw [List.length_set]; exact lT, ?_, ?_, fun x hx => ?_, ?_, rfl⟩)
    · rw [List.map_append, List.map_map]; exact look_put g0
    · refine List.nodup_append.mpr ⟨nd, List.pairwise_map.mpr (List.Pairwise.imp (fun {a b} hab q => hab (congrArg Prod.snd q)) List.nodup_range), fun x hx y hy q => ?_⟩
      obtain ⟨r, hr, rfl⟩ := List.mem_map.mp hy
      subst q
      exact hni (fb _ hx).1
    · rcases List.mem_append.mp hx with hx | hx
      · exact ⟨List.mem_append_left _ (fb x hx).1, (fb x hx).2⟩
      · obtain ⟨r, hr, rfl⟩ := List.mem_map.mp hx
        exact ⟨by simp, List.mem_range.mp hr⟩
    · rw [List.length_append, List.length_append, List.length_map, List.length_range, List.length_singleton]; omega
  subst hσ
  rw [List.length_range] at fl
  have ci : ChI hands gap F [] := ⟨hg1, nd, fun x hx => ⟨List.mem_range.mp (fb x hx).1, (fb x hx).2⟩, fun z hz => (by cases hz), List.Pairwise.nil, fun _ _ z hz => by cases hz⟩
  refine w_asg (r_tup (r_cons (r_lst r_nil) rfl (r_cons (r_lst r_nil) rfl r_nil))) rfl rfl ?_
  have h4 := (hP.app [.lst []]).app [.lst []]
  have cs : ChS T.length (T' ++ [.lst []] ++ [.lst []]) T.length F [] := ⟨look_app (look_app g0 _) _, by
      have := look_new T' (.lst [])
      rw [lT] at this
      exact look_app this _, by
      have := look_new (T' ++ [O.lst []]) (.lst [])
      rw [show (T' ++ [O.lst []]).length = T.length + 2 by simp [lT]] at this
      exact this, by omega, by omega⟩
  rw [show (S ++ [O.lst []]).length = T.length + 2 + 2 by rw [List.length_append, hP.len, lT]; rfl, hP.len, lT]
  generalize T' ++ [O.lst []] ++ [O.lst []] = T4 at h4 cs
  generalize S ++ [O.lst []] ++ [O.lst []] = S4 at h4
  generalize T.length = L at cs
  refine w_fr (as := List.range 4) (enc := nD) (fun pre σ S => ∃ (T' : Sto) (a g : Nat) (F : List (Nat × Nat)) (Z : List Lk) (x4 x5 x8 x9 x10 x13 : Option D), PlS T' S ∧ ChS L T' a F Z ∧ ChI hands g F Z ∧ F.length ≤ 200 ∧ Z.length ≤ 2 * pre.length ∧ σ = [some (.ref 1), some (nD hands), some (nD g), some (.ref (a + 2)), x4, x5, some (.ref (L + 1 + 2)), some (.ref (L + 2 + 2)), x8, x9, x10, none, none, x13, none, none])
    (r_rg1 ev_lit (by omega) (by omega)) (it_rng ..) (rngL0 4) rfl ⟨_, L, gap, F, [], _, _, _, _, _, _, h4, cs, ci, by omega, by simp, rfl⟩ (fun _ _ _ _ => rfl) (fun pre i post σ S e ⟨T', a, g, F, Z, x4, x5, x8, x9, x10, x13, hP, cs, ci, fl, zl, hσ⟩ => ?_) (fun σ S ⟨T', a, g, F, Z, x4, x5, x8, x9, x10, x13, hP, cs, ci, fl, zl, hσ⟩ => ?_)
  · subst hσ
    refine ⟨_, rfl, ?_⟩
    have hpre : pre.length < 4 := by have := congrArg List.length e; simp at this; omega
    obtain ⟨tn, S5, e5, h5, l5⟩ := draw_ok (m + 3) (k := 3) (by omega) (by omega) hP
    refine w_fr (as := List.range tn) (enc := nD) (fun pre2 σ S => ∃ (T' : Sto) (F : List (Nat × Nat)) (Z : List Lk) (x8 : Option D), PlS T' S ∧ ChS L T' a F Z ∧ ChI hands g F Z ∧ F.length ≤ 200 ∧ Z.length ≤ 2 * pre.length + pre2.length ∧ σ = [some (.ref 1), some (nD hands), some (nD g), some (.ref (a + 2)), x4, some (nD i), some (.ref (L + 1 + 2)), some (.ref (L + 2 + 2)), x8, x9, x10, none, none, x13, none, none])
      (r_rg1 (r_call (r_consV (ev_var rfl) (r_consV ev_lit r_nil)) e5) (by omega) (by omega)) (it_rng ..) (rngL0 _) rfl ⟨_, F, Z, _, h5, cs, ci, fl, by simp; omega, rfl⟩ (fun _ _ _ _ => rfl) (fun pre2 j post2 σ S e2 ⟨T', F, Z, x8, hP, cs, ci, fl, zl, hσ⟩ => ?_) (fun σ S ⟨T', F, Z, x8, hP, cs, ci, fl, zl, hσ⟩ => ?_)
    · subst hσ
      refine ⟨_, rfl, ?_⟩
      have hpre2 : pre2.length < tn := by have := congrArg List.length e2; simp at this; omega
      have qF : S[a + 2]? = some (.lst (F.map prD)) := (hP.get _).trans cs.f
      have qP : S[L + 2 + 2]? = some (.lst (Z.map fun z => prD z.2)) := (hP.get _).trans cs.p
      refine w_iff (t := decide (1 < F.length)) (r_cmp (r_b1 (ev_var rfl) (b_lenR qF)) ev_lit (by rw [List.length_map]; exact cm_gtN (b := 1))) rfl (fun hf => ?_) (fun _ => w_end (w_nil ⟨_, F, Z, _, hP, cs, ci, fl, by rw [List.length_append]; omega, rfl⟩))
      have hf2 : 1 < F.length := of_decide_eq_true hf
      obtain ⟨n, S6, e6, h6, l6⟩ := draw_ok (m + 3) (k := F.length) (by omega) (by omega) hP
      obtain ⟨x, hx⟩ : ∃ x, F[n]? = some x := ⟨F[n], List.getElem?_eq_getElem l6⟩
      have qF6 : S6[a + 2]? = some (.lst (F.map prD)) := (h6.get _).trans cs.f
      have n1 := cs.n1
      have n2 := cs.n2
      have qP6 : (S6.set (a + 2) (.lst (popAt (F.map prD) n)))[L + 2 + 2]? = some (.lst (Z.map fun z => prD z.2)) := look_set ((h6.get _).trans cs.p) (by omega)
      have ci2 := ci.pop hx
      have fl2 := (List.eraseIdx_sublist F n).length_le
      refine w_ex (r_ms (ev_var rfl) (on_lst rfl qP) (r_consV (r_ms (ev_var rfl) (on_lst rfl qF) (r_consV (r_call (r_consV (ev_var rfl) (r_consV (r_b1 (ev_var rfl) (by rw [b_lenR qF, List.length_map])) r_nil)) e6) r_nil) (ms_popN (x := prD x) qF6 (by rw [List.getElem?_map, hx]; rfl))) r_nil) (ms_append qP6 (by rw [List.length_map]; unfold lim; omega))) ?_
      have h7 := (h6.set a (.lst (popAt (F.map prD) n))).set (L + 2) (.lst ((Z.map fun z => prD z.2) ++ [prD x]))
      have qG7 : ((S6.set (a + 2) (.lst (popAt (F.map prD) n))).set (L + 2 + 2) (.lst ((Z.map fun z => prD z.2) ++ [prD x])))[L + 1 + 2]? = some (.lst (Z.map fun z => nD z.1)) := look_set (look_set ((h6.get _).trans cs.g) (by omega)) (by omega)
      refine w_ex (r_ms (ev_var rfl) (on_lst rfl qG7) (r_consV (ev_var rfl) r_nil) (ms_append qG7 (by rw [List.length_map]; unfold lim; omega))) (w_end (w_nil ⟨_, F.eraseIdx n, Z ++ [(g, x)], _, h7.set (L + 1) (.lst ((Z.map fun z => nD z.1) ++ [nD g])), ⟨?_, ?_, ?_, n1, n2⟩, ci2, by omega, by rw [List.length_append, List.length_append]; simp; omega, rfl⟩))
      · refine look_set (look_set (look_put cs.f) (by omega)) (by omega) |>.trans ?_
        rw [popAt, era_map]
      · rw [List.map_append]
        exact look_put (look_set (look_set cs.g (by omega)) (by omega))
      · rw [List.map_append]
        exact look_set (look_put (look_set cs.p (by omega))) (by omega)
    subst hσ
    rw [List.length_range] at zl
    clear h5 e5
    obtain ⟨n6, S6, e6, h6, l6⟩ := draw_ok (m + 3) (k := 2) (by omega) (by omega) hP
    obtain ⟨lm, hx, lm1, lm2⟩ : ∃ lm : Nat, ixP S6 (.val (.tup [.int 3, .int 60])) (.val (nD n6)) = some (nD lm) ∧ 1 ≤ lm ∧ lm ≤ 60 := by
      have : n6 = 0 ∨ n6 = 1 := by omega
      rcases this with rfl | rfl
      · exact ⟨3, rfl, by omega, by omega⟩
      · exact ⟨60, rfl, by omega, by omega⟩
    obtain ⟨n7, S7, e7, h7, l7⟩ := draw_ok (m + 3) (k := lm) lm1 (by omega) h6
    refine w_asgV (r_bin ev_lit (r_call (r_consV (ev_var rfl) (r_consV (r_ix (r_tup (r_consV ev_lit (r_consV ev_lit r_nil))) (r_call (r_consV (ev_var rfl) (r_consV ev_lit r_nil)) e6) hx) r_nil)) e7) (op_addN (a := 1))) rfl ?_
    obtain ⟨times, ht⟩ : ∃ times, 1 + n7 = times := ⟨_, rfl⟩
    rw [ht]
    have ht1 : 1 ≤ times := by omega
    have ht2 : times ≤ 60 := by omega
    refine w_asg (r_lst r_nil) rfl rfl ?_
    have h8 := h7.app [.lst []]
    have cs8 : ChS L (T' ++ [.lst []]) a F Z := ⟨look_app cs.f _, look_app cs.g _, look_app cs.p _, cs.n1, cs.n2⟩
    have p8 := look_new T' (.lst [])
    have nw1 : T'.length ≠ L + 1 := fun q => by have := cs.g; rw [← q] at this; simp at this
    have nw2 : T'.length ≠ L + 2 := fun q => by have := cs.p; rw [← q] at this; simp at this
    have nw0 : T'.length ≠ a := fun q => by have := cs.f; rw [← q] at this; simp at this
    rw [h7.len]
    generalize T' ++ [O.lst []] = T8 at h8 cs8 p8
    generalize S7 ++ [O.lst []] = S8 at h8
    generalize T'.length = N at p8 nw1 nw2 nw0
    have qF8 : S8[a + 2]? = some (.lst (F.map prD)) := (h8.get _).trans cs8.f
    refine w_fr (as := F.take 20) (enc := prD) (fun pre3 σ S => ∃ (T' : Sto) (x4 x13 : Option D), PlS T' S ∧ T'[N]? = some (.lst ((pre3.flatMap (grow g (min times 8))).map prD)) ∧ T'[L + 1]? = some (.lst (Z.map fun z => nD z.1)) ∧ T'[L + 2]? = some (.lst (Z.map fun z => prD z.2)) ∧ σ = [some (.ref 1), some (nD hands), some (nD g), some (.ref (a + 2)), x4, some (nD i), some (.ref (L + 1 + 2)), some (.ref (L + 2 + 2)), x8, some (nD times), some (.ref (N + 2)), none, none, x13, none, none])
      (r_sl (u := none) (v := some ((20 : Nat) : Int)) (ev_var rfl) ev_lit rfl ev_lit rfl (slP_ref qF8)) (it_fresh _) (by rw [sl_to, List.map_take]) rfl ⟨_, _, _, h8, p8, cs8.g, cs8.p, rfl⟩ (fun _ _ _ _ => rfl) (fun pre3 x post3 σ S e3 ⟨T', x4, x13, hP, gN, gG, gP, hσ⟩ => ?_) (fun σ S ⟨T', x4, x13, hP, gN, gG, gP, hσ⟩ => ?_)
    · subst hσ
      refine ⟨_, rfl, ?_⟩
      have hpre3 : pre3.length < 20 := by have := congrArg List.length e3; rw [List.length_take] at this; simp at this; omega
      have hc := r_lcm (C := callN Pg (m + 4)) (σ := [some (.ref 1), some (nD hands), some (nD g), some (.ref (a + 2)), some (nD x.1), some (nD i), some (.ref (L + 1 + 2)), some (.ref (L + 2 + 2)), x8, some (nD times), some (.ref (N + 2)), none, none, some (nD x.2), none, none]) (S := S) (own := [15]) (tg := .nm 15) (elt := .tup [(.var 4), (.bin .add (.var 13) (.bin .mul (.var 2) (.var 15)))]) (as := List.range (min times 8)) (enc := nD) (fun k => prD (x.1, x.2 + g * k))
        (r_rg1 (r_b2 (ev_var (i := 9) rfl) ev_lit (b_min2N times 8)) (by omega) (by omega)) (it_rng ..) (rngL0 _) rfl rfl fun k hk => by
          have := List.mem_range.mp hk
          exact lcStep_all rfl (r_tup (r_consV (ev_var rfl) (r_consV (r_bin (ev_var rfl) (r_bin (ev_var rfl) (ev_var rfl) (op_mulN (by omega))) op_addN) r_nil)))
      have gl := grow_len (g := g) (u := min times 8) pre3
      have gl2 : pre3.length * min times 8 ≤ 20 * 8 := Nat.mul_le_mul (by omega) (by omega)
      refine w_ex (r_ext (ev_var rfl) ((hP.get _).trans gN) hc (by rw [List.length_append, List.length_map, List.length_map, List.length_range, gl]; unfold lim; omega)) (w_nil ⟨_, _, _, hP.set N (.lst ((pre3.flatMap (grow g (min times 8))).map prD ++ (List.range (min times 8)).map fun k => prD (x.1, x.2 + g * k))), ?_, look_set gG (by omega), look_set gP (by omega), rfl⟩)
      rw [List.flatMap_append, List.map_append]
      have : ([x].flatMap (grow g (min times 8))).map prD = (List.range (min times 8)).map fun k => prD (x.1, x.2 + g * k) := by
        rw [List.flatMap_singleton, grow, List.map_map]; rfl
      rw [this]
      exact look_put gN
    · subst hσ
      have ci3 := ci.grow (u := min times 8) ht1 (by omega) (List.take_sublist 20 F)
      have gl := grow_len (g := g) (u := min times 8) (F.take 20)
      have gl2 : (F.take 20).length * min times 8 ≤ 20 * 8 := Nat.mul_le_mul (by rw [List.length_take]; omega) (by omega)
      refine w_asgV (r_tup (r_consV (r_bin (ev_var rfl) (ev_var rfl) (op_mulN (by omega))) (r_consV (ev_var rfl) r_nil))) rfl (w_nil ⟨_, N, g * times, _, Z, _, _, _, _, _, _, hP, ⟨gN, gG, gP, nw1, nw2⟩, ci3, by omega, by rw [List.length_append]; simp; omega, rfl⟩)
  subst hσ
  rw [List.length_range] at zl
  have qG : S[L + 1 + 2]? = some (.lst (Z.map fun z => nD z.1)) := (hP.get _).trans cs.g
  have qP : S[L + 2 + 2]? = some (.lst (Z.map fun z => prD z.2)) := (hP.get _).trans cs.p
  have htr : (Pv.val (.ref (L + 1 + 2))).truth S = some (!Z.isEmpty) := by rw [tr_ref qG]; cases Z <;> rfl
  refine w_iff (t := !!Z.isEmpty) (r_nt (ev_var rfl) htr) rfl (fun _ => w_retV ev_lit ⟨_, _, rfl, hP⟩) (fun _ => w_end ?_)
  refine w_asgV (r_tup (r_consV (r_b1 (ev_var rfl) (b_tupR qG)) (r_consV (r_b1 (ev_var rfl) (b_tupR qP)) r_nil))) rfl ?_
  refine w_iff (t := false) (r_not (t := true) (r_call (r_consV (r_call (r_consV (ev_var rfl) (r_consV (ev_var rfl) (r_consV (ev_var rfl) r_nil))) (chainPlaces_ok m ci (by omega) _)) (r_consV ev_lit r_nil)) (same_ok (m + 3) (good_bl true) (by simp [D.sz]) _))) rfl (fun h => by cases h) (fun _ => w_end ?_)
  refine w_fr (as := List.range 4) (enc := nD) (fun pre σ S => ∃ (x5 x11 x12 : Option D), PlS T' S ∧ σ = [some (.ref 1), some (nD hands), some (nD g), some (.ref (a + 2)), x4, x5, some (gzD Z), some (pzD Z), x8, x9, x10, x11, x12, x13, none, none])
    (r_rg1 ev_lit (by omega) (by omega)) (it_rng ..) (rngL0 4) rfl ⟨_, _, _, hP, rfl⟩ (fun _ _ _ _ => rfl) (fun pre i post σ S e ⟨x5, x11, x12, hP, hσ⟩ => ?_) (fun σ S ⟨x5, x11, x12, hP, hσ⟩ => ?_)
  · subst hσ
    refine ⟨_, rfl, ?_⟩
    obtain ⟨day, S9, e9, h9, l9⟩ := day_ok (m + 2) hP
    refine w_asgV (r_call (r_consV (ev_var rfl) r_nil) e9) rfl ?_
    have z1 : ∀ z ∈ Z, 1 ≤ z.1 := fun z hz => (ci.zb z hz).1
    have hc := r_lc (C := callN Pg (m + 4)) (σ := [some (.ref 1), some (nD hands), some (nD g), some (.ref (a + 2)), x4, some (nD i), some (gzD Z), some (pzD Z), x8, x9, x10, some (nD day), x12, x13, none, none]) (S := S9) (own := [14]) (elt := .var 14) (tg := .nm 14) (ifs := [(.cmp .eq (.bin .mod (.b1 .int (.var 11)) (.ix (.var 6) (.var 14))) (.ix (.ix (.var 7) (.var 14)) (.lit (.int 1))))]) (as := List.range Z.length) (enc := nD) (fun i => decide (day % (Z.getD i default).1 = (Z.getD i default).2.2)) nD
      (r_rg1 (n := Z.length) (r_b1 (ev_var (i := 6) rfl) (by rw [b_lenT, List.length_map])) (by omega) (by omega)) (it_rng ..) (rngL0 _) rfl rfl fun i hi => by
        have hi2 := List.mem_range.mp hi
        exact lcStep_if rfl (r_if1 (r_cmp (r_bin (r_b1 (ev_var rfl) (b_intI _)) (r_ix (ev_var rfl) (ev_var rfl) (ix_map (f := fun z : Lk => nD z.1) hi2)) (op_modN (z1 _ (lk_mem hi2)))) (r_ix (r_ix (ev_var rfl) (ev_var rfl) (ix_map (f := fun z : Lk => prD z.2) hi2)) ev_lit (ix_t1 ..)) cm_eqN) rfl) fun _ => ev_var rfl
    refine w_asgV (d := lotD (dueL Z day)) (r_b1 hc (b_tupF _)) rfl ?_
    have dl := ci.due day
    refine w_iff (t := false) (r_or (t := false) (u := false) (r_not (t := true) (r_call (r_consV (r_callk (r_consV (ev_var rfl) (r_consV (ev_var rfl) (r_consV (ev_var rfl) r_nil))) (chainLot_ok (m + 3) z1 day _)) (r_consV (ev_var rfl) r_nil)) (same_ok (m + 3) (good_up (good_lot _ (k := 0)) (by decide)) (by rw [sz_lot]; omega) _))) fun _ => r_cmp (r_b1 (ev_var rfl) (by rw [b_lenT, List.length_map])) (ev_var rfl) (by rw [cm_gtN, decide_eq_false (by omega)])) rfl (fun h => by cases h) (fun _ => w_end (w_nil ⟨_, _, _, h9, rfl⟩))
  · subst hσ
    exact w_retV ev_lit ⟨T', S, rfl, hP⟩
end T
end Nog

set_option Elab.async false
set_option linter.all false
set_option maxRecDepth 100000
set_option maxHeartbeats 4000000
/-! k99: _law_periods -/
namespace Nog
theorem lcm_alt (a b : Nat) (h : 1 ≤ a) : a / Nat.gcd a b * b = Nat.lcm a b := by
  have g0 : 0 < Nat.gcd a b := Nat.gcd_pos_of_pos_left _ h
  unfold Nat.lcm
  refine (Nat.div_eq_of_eq_mul_left g0 ?_).symm
  rw [Nat.mul_assoc, Nat.mul_comm b, ← Nat.mul_assoc, Nat.div_mul_cancel (Nat.gcd_dvd_left a b)]
theorem b_max2N {S : Sto} (i j : Nat) : bi2 .max S (nD i) (nD j) = .ok (.val (nD (max i j))) S := by
  rw [b_max2]
  congr 2
  by_cases h : (j : Int) > i
  · rw [if_pos h, Nat.max_eq_right (by omega)]
  · rw [if_neg h, Nat.max_eq_left (by omega)]
theorem F2.lenq {α β : Type} {P : α → β → Prop} : ∀ {as : List α} {bs : List β}, F2 P as bs → as.length = bs.length
  | _, _, .nil => rfl
  | _, _, .cons _ t => by rw [List.length_cons, List.length_cons, t.lenq]
theorem F2.all {α β : Type} {P : α → β → Prop} {Q : β → Prop} (hq : ∀ a b, P a b → Q b) : ∀ {as : List α} {bs : List β}, F2 P as bs → ∀ b ∈ bs, Q b
  | _, _, .cons h t, b, hb => by
    rcases List.mem_cons.mp hb with rfl | hb
    · exact hq _ _ h
    · exact t.all hq b hb
theorem good_opt {k : Nat} (o : Option Nat) : (optD nD o).good k := by
  cases o
  · exact good_non
  · exact good_int _
theorem sz_opt (o : Option Nat) : (optD nD o).sz = 1 := by
  cases o <;> simp [optD, D.sz]
namespace T
set_option maxHeartbeats 16000000 in
theorem periods_ok (m : Nat) {T S : Sto} (h : PlS T S) : ∃ T' S', callN Pg (m + 5) i_L_periods [.ref 1] S = .ok (.bl true) S' ∧ PlS T' S' := by
  refine callR (P := Pg) (m := m + 4) (k := i_L_periods) (as := [.ref 1]) (f := f_L_periods.fn) rfl rfl rfl (Q := fun z => ∃ T' S', z = .ok (.bl true) S' ∧ PlS T' S') ?_
  show Wp _ b_L_periods [some (.ref 1), none, none, none, none, none, none, none, none, none, none, none, none, none, none] S _
  obtain ⟨c, S1, c1, h1, l1⟩ := draw_ok (m + 3) (k := 6) (by omega) (by omega) h
  refine w_asgV (r_bin ev_lit (r_call (r_consV (ev_var rfl) (r_consV ev_lit r_nil)) c1) (op_addN (a := 1))) rfl ?_
  have hmany : 1 ≤ 1 + c ∧ 1 + c ≤ 6 := by omega
  generalize 1 + c = many at hmany
  have pw6 : ∀ {σ : Env} {S : Sto}, ev (callN Pg (m + 4)) (.bin .pow (.lit (.int 10)) (.lit (.int 6))) σ S = .ok (.val (nD (10 ^ 6))) S := fun {σ S} => r_bin ev_lit ev_lit (op_powI2 (j := 6) (by decide +kernel))
  have pw17 : ∀ {σ : Env} {S : Sto}, ev (callN Pg (m + 4)) (.bin .pow (.lit (.int 10)) (.lit (.int 17))) σ S = .ok (.val (nD (10 ^ 17))) S := fun {σ S} => r_bin ev_lit ev_lit (op_powI2 (j := 17) (by decide +kernel))
  obtain ⟨n2, S2, c2, h2, l2⟩ := draw_ok (m + 3) (k := 4) (by omega) (by omega) h1
  obtain ⟨hab, hx, hab1, hab2⟩ : ∃ hab : Nat, ixP S2 (.val (.tup [.int 6, .int 12, .int 60, nD (10 ^ 6)])) (.val (nD n2)) = some (nD hab) ∧ 1 ≤ hab ∧ hab ≤ 1000000 := by
    have : n2 = 0 ∨ n2 = 1 ∨ n2 = 2 ∨ n2 = 3 := by omega
    rcases this with rfl | rfl | rfl | rfl
    · exact ⟨6, rfl, by omega, by omega⟩
    · exact ⟨12, rfl, by omega, by omega⟩
    · exact ⟨60, rfl, by omega, by omega⟩
    · exact ⟨10 ^ 6, rfl, by omega, by omega⟩
  refine w_asgV (r_ix (r_tup (r_consV ev_lit (r_consV ev_lit (r_consV ev_lit (r_consV pw6 r_nil))))) (r_call (r_consV (ev_var rfl) (r_consV ev_lit r_nil)) c2) hx) rfl ?_
  obtain ⟨ps, S3, c3, h3, f3⟩ := r_lcx2 (C := callN Pg (m + 4)) (σ := [some (.ref 1), some (nD many), some (nD hab), none, none, none, none, none, none, none, none, none, none, none, none]) (S := S2) (own := [13]) (tg := .nm 13) (elt := (.bin .add (.lit (.int 1)) (.call i_L_draw [(.var 0), (.var 2)]))) (as := List.range many) (enc := nD) (g := nD)
    (fun S => PlS T S) (fun _ p => 1 ≤ p ∧ p ≤ 1000000) (r_rg1 (ev_var (i := 1) rfl) (by omega) (by omega)) (it_rng ..) (rngL0 _) rfl h2 (fun _ _ => rfl) fun d hd S hS => by
      obtain ⟨j1, Sa, ca, ha, la⟩ := draw_ok (m + 3) hab1 hab2 hS
      exact ⟨1 + j1, Sa, lcStep_st rfl (r_bin ev_lit (r_call (r_consV (ev_var rfl) (r_consV (ev_var rfl) r_nil)) ca) (op_addN (a := 1))), ha, by omega, by omega⟩
  refine w_asgV (r_b1 c3 (b_tupF _)) rfl ?_
  have hp : ∀ p ∈ ps, 1 ≤ p ∧ p ≤ 1000000 := F2.all (P := fun _ p => 1 ≤ p ∧ p ≤ 1000000) (Q := fun p => 1 ≤ p ∧ p ≤ 1000000) (fun _ _ h => h) f3
  have pl : ps.length = many := by rw [← f3.lenq, List.length_range]
  obtain ⟨bs0, S4, c4, h4, f4⟩ := r_lcx2 (C := callN Pg (m + 4)) (σ := [some (.ref 1), some (nD many), some (nD hab), some (lotD ps), none, none, none, none, none, none, none, none, none, none, none]) (S := S3) (own := [6]) (tg := .nm 6) (elt := (.call i_L_draw [(.var 0), (.var 6)])) (as := ps) (enc := nD) (g := nD)
    (fun S => PlS T S) (fun _ _ => True) (ev_var (i := 3) rfl) (it_tup _) rfl rfl h3 (fun _ _ => rfl) fun p hpm S hS => by
      obtain ⟨j1, Sa, ca, ha, la⟩ := draw_ok (m + 3) (hp p hpm).1 (hp p hpm).2 hS
      exact ⟨j1, Sa, lcStep_st rfl (r_call (r_consV (ev_var rfl) (r_consV (ev_var rfl) r_nil)) ca), ha, trivial⟩
  refine w_asgV (r_b1 c4 (b_tupF _)) rfl ?_
  obtain ⟨n5, S5, c5, h5, l5⟩ := draw_ok (m + 3) (k := 2) (by omega) (by omega) h4
  refine w_iffJ (t := decide (n5 = 0)) (fun σ S => ∃ (bs : List Nat) (z : Option D), bs.length = ps.length ∧ PlS T S ∧ σ = [some (.ref 1), some (nD many), some (nD hab), some (lotD ps), some (lotD bs), none, none, none, none, z, none, none, none, none, none]) (r_cmp (r_call (r_consV (ev_var rfl) (r_consV ev_lit r_nil)) c5) ev_lit (cm_eqN (b := 0))) rfl (fun _ => ?_) (fun _ => w_nil ⟨bs0, _, f4.lenq.symm, h5, rfl⟩) fun σ S ⟨bs, z, bl, hP, hσ⟩ => ?_
  · obtain ⟨far, S6, c6, h6, l6⟩ := day_ok (m + 2) h5
    refine w_asgV (r_call (r_consV (ev_var rfl) r_nil) c6) rfl ?_
    refine w_asgV (d := lotD (ps.map fun p => far % p)) (S1 := S6) (r_b1 (r_lcm (as := ps) (enc := nD) (fun p => nD (far % p)) (ev_var rfl) (it_tup _) rfl rfl rfl fun p hpm => lcStep_all rfl (r_bin (r_b1 (ev_var rfl) (b_intI _)) (ev_var rfl) (op_modN (hp p hpm).1))) (by rw [b_tupF, lotD, List.map_map]; rfl)) rfl (w_nil ⟨_, _, by rw [List.length_map], h6, rfl⟩)
  subst hσ
  clear h5 c5 c4 h4 f4
  refine w_asgV ev_lit rfl ?_
  refine w_fr (as := ps) (enc := nD) (fun pre σ S => ∃ (per : Nat) (y : Option D), ps.foldl Nat.lcm 1 = (ps.drop pre.length).foldl Nat.lcm per ∧ 1 ≤ per ∧ per ≤ 1000000 ^ pre.length ∧ PlS T S ∧ σ = [some (.ref 1), some (nD many), some (nD hab), some (lotD ps), some (lotD bs), some (nD per), y, none, none, z, none, none, none, none, none])
    (ev_var rfl) rfl rfl rfl ⟨1, none, rfl, by decide, by decide, hP, rfl⟩ (fun _ _ _ _ => rfl) (fun pre p post σ S e ⟨per, y, hm, hd, hpe, hP, hσ⟩ => ?_) (fun σ S ⟨per, y, hm, hd, hpe, hP, hσ⟩ => ?_)
  · subst hσ
    refine ⟨_, rfl, ?_⟩
    obtain ⟨p1, p2⟩ := hp p (by rw [e]; simp)
    obtain ⟨g0, gp, c0, s0, sp, cop, lc⟩ := gcd_facts hd p1
    rw [drop_pre e, List.foldl_cons] at hm
    refine w_asgV (r_bin (r_bin (ev_var rfl) (r_call (r_consV (ev_var rfl) (r_consV (ev_var rfl) r_nil)) (factor_ok (m + 3) _ _ _)) (op_fdivN g0 (by omega))) (ev_var rfl) (op_mulN (by omega))) rfl ?_
    rw [lcm_alt _ _ hd]
    refine w_nil ⟨_, _, by rw [drop_pre1 e]; exact hm, ?_, ?_, hP, rfl⟩
    · rw [lc]; exact Nat.mul_pos hd s0
    · rw [lc, List.length_append]; exact per_next hpe (by omega)
  subst hσ
  rw [List.drop_length] at hm
  have hm : ps.foldl Nat.lcm 1 = per := hm
  have pn : ps.length ≤ 6 := by omega
  have cm := common_ok (m + 3) hp pn S
  rw [hm] at cm
  refine w_iff (t := false) (r_not (t := true) (r_call (r_consV (r_call (r_consV (ev_var rfl) r_nil) cm) (r_consV (ev_var rfl) r_nil)) (same_ok (m + 3) (good_int _) (by simp [D.sz]) _))) rfl (fun h => by cases h) (fun _ => w_end ?_)
  obtain ⟨sl, S7, c7, h7, s7⟩ := r_lcx3 (C := callN Pg (m + 4)) (σ := [some (.ref 1), some (nD many), some (nD hab), some (lotD ps), some (lotD bs), some (nD per), y, none, none, z, none, none, none, none, none]) (S := S) (own := [14]) (tg := .nm 14) (elt := .var 14) (ifs := [(.cmp .eq (.call i_L_draw [(.var 0), (.lit (.int 2))]) (.lit (.int 0)))]) (as := List.range many) (enc := nD)
      (fun S => PlS T S) (r_rg1 (ev_var (i := 1) rfl) (by omega) (by omega)) (it_rng ..) (rngL0 _) rfl hP (fun _ _ => rfl) fun d hd S hS => by
        obtain ⟨j1, Sa, ca, ha, la⟩ := draw_ok (m + 3) (k := 2) (by omega) (by omega) hS
        exact ⟨decide (j1 = 0), Sa, lcStep_ifS rfl (r_if1 (r_cmp (r_call (r_consV (ev_var rfl) (r_consV ev_lit r_nil)) ca) ev_lit (cm_eqN (b := 0))) rfl) fun _ => ev_var rfl, ha⟩
  refine w_asg (r_lst (ds := [[], List.range many, sl].map lotD) (r_consV (r_tup r_nil) (r_consV (r_b1 (r_rg1 (ev_var rfl) (by omega) (by omega)) (q := .val (lotD (List.range many))) (by show Rs.ok _ _ = _; rw [rngL0])) (r_consV (r_b1 c7 (b_tupF _)) r_nil)))) rfl rfl ?_
  have h8 := h7.app [.lst ([[], List.range many, sl].map lotD)]
  have g8 := look_new T (.lst ([[], List.range many, sl].map lotD))
  rw [h7.len]
  have hlots : ∀ l ∈ [[], List.range many, sl], (∀ c ∈ l, c < ps.length) ∧ l.length ≤ 6 := by
    intro l hl
    rcases List.mem_cons.mp hl with rfl | hl
    · exact ⟨fun c hc => (by cases hc), by simp⟩
    rcases List.mem_cons.mp hl with rfl | hl
    · exact ⟨fun c hc => by rw [pl]; exact List.mem_range.mp hc, by rw [List.length_range]; omega⟩
    · rw [List.mem_singleton] at hl
      subst hl
      have := s7.length_le
      rw [List.length_range] at this
      exact ⟨fun c hc => by rw [pl]; exact List.mem_range.mp (s7.subset hc), by omega⟩
  generalize [[], List.range many, sl] = lots at h8 g8 hlots
  generalize T ++ [O.lst (lots.map lotD)] = T8 at h8 g8
  generalize S7 ++ [O.lst (lots.map lotD)] = S8 at h8
  have gS : ∀ S, PlS T8 S → S[T.length + 2]? = some (.lst (lots.map lotD)) := fun S h => (h.get _).trans g8
  have hh1 : ∀ S, PlS T8 S → heldOk ((Pv.val (.ref (T.length + 2))).held S8) S = true := fun S h => by rw [hd_ref (gS _ h8)]; exact held_one (gS _ h)
  refine w_fr (as := lots) (enc := lotD) (fun pre σ S => ∃ (x0 x1 x2 x3 : Option D), PlS T8 S ∧ σ = [some (.ref 1), some (nD many), some (nD hab), some (lotD ps), some (lotD bs), some (nD per), y, some (.ref (T.length + 2)), x0, z, x1, x2, x3, none, none])
    (ev_var rfl) (it_ref (gS _ h8)) rfl (lk_ref (gS _ h8)) ⟨none, none, none, none, h8, rfl⟩ (fun _ _ _ ⟨_, _, _, _, hi, _⟩ => hh1 _ hi) (fun pre lot post σ S e ⟨x0, x1, x2, x3, hP, hσ⟩ => ?_) (fun σ S ⟨x0, x1, x2, x3, hP, hσ⟩ => ?_)
  · subst hσ
    refine ⟨_, rfl, ?_⟩
    obtain ⟨lc, ln⟩ := hlots lot (by rw [e]; simp)
    refine w_asgV (r_call (r_consV (ev_var rfl) (r_consV (ev_var rfl) (r_consV (ev_var rfl) r_nil))) (met_ok (m + 1) bl hp lc ln _)) rfl ?_
    refine w_iff (t := false) (r_not (t := true) (r_call (r_consV (r_call (r_consV (ev_var rfl) (r_consV (ev_var rfl) (r_consV (ev_var rfl) r_nil))) (meeting_ok (m + 1) bl hp lc ln _)) (r_consV (ev_var rfl) r_nil)) (same_ok (m + 3) (good_opt _) (by rw [sz_opt]; omega) _))) rfl (fun h => by cases h) (fun _ => w_end ?_)
    obtain ⟨day, S9, c9, h9, l9⟩ := day_ok (m + 2) hP
    refine w_asgV (r_call (r_consV (ev_var rfl) r_nil) c9) rfl ?_
    have pp0 : per < 2 ^ 1000 := pow_big pn hpe
    generalize metGo ps bs 0 1 lot = o
    have cond : ∃ t : Bool, (t = true → ∃ d, o = some d) ∧ ev (callN Pg (m + 4)) (.an (.nisn (.var 10)) (.cmp .lt (.var 10) (.bin .pow (.lit (.int 10)) (.lit (.int 17))))) [some (.ref 1), some (nD many), some (nD hab), some (lotD ps), some (lotD bs), some (nD per), y, some (.ref (T.length + 2)), some (lotD lot), z, some (optD nD o), some (nD day), x3, none, none] S9 = .ok (.val (.bl t)) S9 := by
      cases o with
      | none => exact ⟨false, fun h => (by cases h), r_an (t := false) (u := false) (r_nisn (ev_var (d := .non) rfl)) fun h => by cases h⟩
      | some d => exact ⟨decide (d < 10 ^ 17), fun _ => ⟨d, rfl⟩, (r_an (t := true) (u := decide (d < 10 ^ 17)) (r_nisn (ev_var (d := nD d) rfl)) fun _ => r_cmp (ev_var (d := nD d) rfl) pw17 cm_ltN).trans (by rw [Bool.true_and])⟩
    obtain ⟨t, ht, hev⟩ := cond
    refine w_iffJ (t := t) (fun σ S => ∃ day : Nat, PlS T8 S ∧ σ = [some (.ref 1), some (nD many), some (nD hab), some (lotD ps), some (lotD bs), some (nD per), y, some (.ref (T.length + 2)), some (lotD lot), z, some (optD nD o), some (nD day), x3, none, none]) hev rfl (fun h => ?_) (fun _ => w_nil ⟨day, h9, rfl⟩) fun σ S ⟨day, hP, hσ⟩ => ?_
    · obtain ⟨d, rfl⟩ := ht h
      obtain ⟨nn, Sa, ca, ha, la⟩ := draw_ok (m + 3) (k := max 1 (min 9 (10 ^ 17 / per))) (by omega) (by omega) h9
      refine w_asgV (d := nD (d + per * nn)) (S1 := Sa) (r_bin (ev_var (d := nD d) rfl) (r_bin (ev_var rfl) (r_call (r_consV (ev_var rfl) (r_consV (r_b2 ev_lit (r_b2 ev_lit (r_bin pw17 (ev_var rfl) (op_fdivI (by omega) (Nat.lt_trans (log_of (k := 1000) (by rw [Int.natAbs_natCast]; exact pp0) (by decide)) (by decide)))) (b_min2N 9 (10 ^ 17 / per))) (b_max2N 1 _)) r_nil)) ca) (op_mulN (by omega))) op_addN) rfl (w_nil ⟨_, ha, rfl⟩)
    subst hσ
    have hth := r_lc (C := callN Pg (m + 4)) (σ := [some (.ref 1), some (nD many), some (nD hab), some (lotD ps), some (lotD bs), some (nD per), y, some (.ref (T.length + 2)), some (lotD lot), z, some (optD nD o), some (nD day), x3, none, none]) (S := S) (own := [14]) (elt := .var 14) (tg := .nm 14) (ifs := [(.cmp .eq (.bin .mod (.b1 .int (.var 11)) (.ix (.var 3) (.var 14))) (.ix (.var 4) (.var 14)))]) (as := List.range many) (enc := nD) (fun i => decide (day % ps.getD i default = bs.getD i default)) nD
      (r_rg1 (ev_var (i := 1) rfl) (by omega) (by omega)) (it_rng ..) (rngL0 _) rfl rfl fun i hi => by
        have hi2 : i < ps.length := by rw [pl]; exact List.mem_range.mp hi
        exact lcStep_if rfl (r_if1 (r_cmp (r_bin (r_b1 (ev_var rfl) (b_intI _)) (r_ix (ev_var rfl) (ev_var rfl) (ix_lot hi2)) (op_modN (hp _ (getD_mem hi2)).1)) (r_ix (ev_var rfl) (ev_var rfl) (ix_lot (by omega))) cm_eqN) rfl) fun _ => ev_var rfl
    refine w_asgV (r_b1 hth (b_tupF _)) rfl ?_
    have fl := List.length_filter_le (fun i => decide (day % ps.getD i default = bs.getD i default)) (List.range many)
    rw [List.length_range] at fl
    have po := periodlot_ok (m + 3) bl (fun p h => (hp p h).1) pn day S
    rw [pl] at po
    exact w_iff (t := false) (r_not (t := true) (r_call (r_consV (r_call (r_consV (ev_var rfl) (r_consV (ev_var rfl) (r_consV (ev_var rfl) r_nil))) po) (r_consV (ev_var rfl) r_nil)) (same_ok (m + 3) (good_up (good_lot _ (k := 0)) (by decide)) (by rw [sz_lot]; omega) _))) rfl (fun h => by cases h) (fun _ => w_end (w_nil ⟨_, _, _, _, hP, rfl⟩))
  · subst hσ
    exact w_retV ev_lit ⟨T8, S, rfl, hP⟩
end T
end Nog

set_option Elab.async false
set_option linter.all false
set_option maxRecDepth 100000
set_option maxHeartbeats 4000000
/-! k99: law, main -/
namespace Nog
theorem met1 : metGo [4, 6] [0, 1] 0 1 [0, 1] = none := by
  rw [metGo_cons, if_pos (by decide)]
  show metGo [4, 6] [0, 1] (0 + 1 * kOf 1 4 0) (1 * (4 / 1)) [1] = none
  rw [kOf_eq (c := 1) (s := 4) (want := 0) (k := 0) (by decide) (by decide) (by decide), metGo_cons, if_neg (by decide)]
theorem met2 : metGo [4, 6, 9] [1, 3, 0] 0 1 [0, 1, 2] = some 9 := by
  rw [metGo_cons, if_pos (by decide)]
  show metGo [4, 6, 9] [1, 3, 0] (0 + 1 * kOf 1 4 1) (1 * (4 / 1)) [1, 2] = some 9
  rw [kOf_eq (c := 1) (s := 4) (want := 1) (k := 1) (by decide) (by decide) (by decide)]
  show metGo [4, 6, 9] [1, 3, 0] 1 4 [1, 2] = some 9
  rw [metGo_cons, if_pos (by decide)]
  show metGo [4, 6, 9] [1, 3, 0] (1 + 4 * kOf 2 3 1) (4 * (6 / 2)) [2] = some 9
  rw [kOf_eq (c := 2) (s := 3) (want := 1) (k := 2) (by decide) (by decide) (by decide)]
  show metGo [4, 6, 9] [1, 3, 0] 9 12 [2] = some 9
  rw [metGo_cons, if_pos (by decide)]
  show metGo [4, 6, 9] [1, 3, 0] (9 + 12 * kOf 4 3 (-3)) (12 * (9 / 3)) [] = some 9
  rw [kOf_eq (c := 4) (s := 3) (want := -3) (k := 0) (by decide) (by decide) (by decide)]
  rfl
theorem kn0 : Kn [2, 5, 5] 1 2 5 := ⟨by decide, by decide, by decide, by decide, by decide, by decide, by decide, by decide, by decide⟩
theorem lot0 : lotK [2, 5, 5] 1 2 (10 ^ 18) = [1] := by
  have : lotU [2, 5, 5] 1 2 (10 ^ 18) = [1] := by decide +kernel
  unfold lotK srt
  rw [this, List.mergeSort_singleton]
theorem plot0 : plotR [[0]] [[1], [0], [2], [0]] (10 ^ 18) = [0] := by decide +kernel
namespace T
theorem main : ∀ ns : List Int, ns.length ≤ 63 → ∃ S, callN (fs.map FDef.fn) (20 + 1) i_law [.rol (ns.map Nog.D.int)] [] = .ok (.bl true) S := fun ns hns => by
  refine callR (P := Pg) (m := 20) (k := i_law) (as := [.rol (ns.map .int)]) (f := f_law.fn) rfl rfl rfl (Q := fun z => ∃ S, z = .ok (.bl true) S) ?_
  show Wp _ b_law [some (.rol (ns.map .int)), none, none, none] [] _
  obtain ⟨S1, c1, h1⟩ := pool_ok 19 ns hns
  refine w_asgV (r_call (r_consV (ev_var rfl) r_nil) c1) rfl ?_
  refine w_fr (as := List.range 3) (enc := nD) (fun pre σ S => ∃ (T : Sto) (z : Option D), PlS T S ∧ σ = [some (.rol (ns.map .int)), some (.ref 1), z, none])
    (r_rg1 ev_lit (by omega) (by omega)) (it_rng ..) (rngL0 3) rfl ⟨_, _, h1, rfl⟩ (fun _ _ _ _ => rfl) (fun pre i post σ S e ⟨T, z, hP, hσ⟩ => ?_) (fun σ S ⟨T, z, hP, hσ⟩ => ?_)
  · subst hσ
    refine ⟨_, rfl, ?_⟩
    obtain ⟨T2, S2, c2, h2⟩ := plans_ok 16 hP
    obtain ⟨T3, S3, c3, h3⟩ := periods_ok 15 h2
    obtain ⟨T4, S4, c4, h4⟩ := chains_ok 15 h3
    obtain ⟨T5, S5, c5, h5⟩ := kinds_ok 13 h4
    have nn : ∀ {k : Nat} {S S' : Sto}, callN Pg 20 k [.ref 1] S = .ok (.bl true) S' → ev (callN Pg 20) (.nt (.call k [(.var 1)])) [some (.rol (ns.map .int)), some (.ref 1), some (nD i), none] S = .ok (.val (.bl false)) S' := fun c => r_nt (t := true) (r_call (r_consV (ev_var rfl) r_nil) c) rfl
    refine w_iff (t := false) (r_orS (t := false) (u := false) (nn c2) (fun h => by cases h) fun _ => r_orS (t := false) (u := false) (nn c3) (fun h => by cases h) fun _ => r_orS (t := false) (u := false) (nn c4) (fun h => by cases h) fun _ => nn c5) rfl (fun h => by cases h) (fun _ => w_end (w_nil ⟨T5, _, h5, rfl⟩))
  subst hσ
  refine w_asgV (d := planD [[0]] [[1], [0], [2], [0]]) (S1 := S) (r_tup (r_consV (r_tup (r_consV (r_tup (r_consV ev_lit r_nil)) r_nil)) (r_consV (r_tup (r_consV (r_tup (r_consV ev_lit r_nil)) (r_consV (r_tup (r_consV ev_lit r_nil)) (r_consV (r_tup (r_consV ev_lit r_nil)) (r_consV (r_tup (r_consV ev_lit r_nil)) r_nil))))) r_nil))) rfl ?_
  have pw18 : ∀ {σ : Env} {S : Sto}, ev (callN Pg 20) (.bin .pow (.lit (.int 10)) (.lit (.int 18))) σ S = .ok (.val (nD (10 ^ 18))) S := fun {σ S} => r_bin ev_lit ev_lit (op_powI2 (j := 18) (by decide +kernel))
  have p0 := planlot_ok 19 [[0]] [[1], [0], [2], [0]] (10 ^ 18) (by decide) S
  rw [plot0] at p0
  have k0 := kindsLot_ok 15 kn0 (10 ^ 18) S
  rw [lot0] at k0
  have t2 : ∀ {σ : Env} {S : Sto} {a b : E} {x y : D}, ev (callN Pg 20) a σ S = .ok (.val x) S → ev (callN Pg 20) b σ S = .ok (.val y) S → ev (callN Pg 20) (.tup [a, b]) σ S = .ok (.val (.tup [x, y])) S := fun h1 h2 => r_tup (r_consV h1 (r_consV h2 r_nil))
  have t3 : ∀ {σ : Env} {S : Sto} {a b c : D}, ev (callN Pg 20) (.tup [.lit a, .lit b, .lit c]) σ S = .ok (.val (.tup [a, b, c])) S := r_tup (r_consV ev_lit (r_consV ev_lit (r_consV ev_lit r_nil)))
  have t1 : ∀ {σ : Env} {S : Sto} {a : D}, ev (callN Pg 20) (.tup [.lit a]) σ S = .ok (.val (.tup [a])) S := r_tup (r_consV ev_lit r_nil)
  have g2 : (D.tup [lotD [0], lotD [1]]).good 60 := good_tup (goodL_cons (good_up (good_lot _ (k := 0)) (by decide)) (goodL_cons (good_up (good_lot _ (k := 0)) (by decide)) goodL_nil))
  refine w_iff (t := false) (r_not (t := true) (r_call (r_consV (t2 (r_call (r_consV (ev_var rfl) (r_consV pw18 r_nil)) p0) (r_call (r_consV t3 (r_consV ev_lit (r_consV pw18 r_nil))) k0)) (r_consV (t2 t1 t1) r_nil)) (same_ok 19 g2 (by simp [D.sz, D.szL]) S))) rfl (fun h => by cases h) (fun _ => w_end ?_)
  have m1 := meeting_ok 17 (ps := [4, 6]) (bs := [0, 1]) (lot := [0, 1]) rfl (by decide) (by decide) (by decide) S
  rw [met1] at m1
  have m2 := meeting_ok 17 (ps := [4, 6, 9]) (bs := [1, 3, 0]) (lot := [0, 1, 2]) rfl (by decide) (by decide) (by decide) S
  rw [met2] at m2
  have g3 : (D.tup [.non, nD 9]).good 60 := good_tup (k := 59) (goodL_cons good_non (goodL_cons (good_int _) goodL_nil))
  exact w_retV (r_call (r_consV (t2 (r_call (r_consV (t2 ev_lit ev_lit) (r_consV (t2 ev_lit ev_lit) (r_consV (t2 ev_lit ev_lit) r_nil))) m1) (r_call (r_consV t3 (r_consV t3 (r_consV t3 r_nil))) m2)) (r_consV (t2 ev_lit ev_lit) r_nil)) (same_ok 19 g3 (by simp [D.sz, D.szL]) S)) ⟨_, rfl⟩
end T
end Nog


set_option Elab.async false
set_option linter.all false
set_option maxRecDepth 100000
set_option maxHeartbeats 0
/-! the join (printed by joi.py) -/
namespace Nog
namespace T
open PySem PySem.Spec PyProof.Rows L2
theorem bd_fraction : BindOk f_fraction := fun _ _ _ _ _ _ us hl => match us, hl with | [_, _], _ => rfl
theorem bd_sum_of_shares : BindOk f_sum_of_shares := fun _ _ _ _ _ _ us hl => match us, hl with | [_], _ => rfl
theorem bd_done_days : BindOk f_done_days := fun _ _ _ _ _ _ us hl => match us, hl with | [_, _], _ => rfl
theorem bd_plan_lot : BindOk f_plan_lot := fun _ _ _ _ _ _ us hl => match us, hl with | [_, _], _ => rfl
theorem bd_moved_plan : BindOk f_moved_plan := fun _ _ _ _ _ _ us hl => match us, hl with | [_, _], _ => rfl
theorem bd_is_whole : BindOk f_is_whole := fun _ _ _ _ _ _ us hl => match us, hl with | [_], _ => rfl
theorem bd_is_pair : BindOk f_is_pair := fun _ _ _ _ _ _ us hl => match us, hl with | [_], _ => rfl
theorem bd_is_whole_pair : BindOk f_is_whole_pair := fun _ _ _ _ _ _ us hl => match us, hl with | [_], _ => rfl
theorem bd_is_full : BindOk f_is_full := fun _ _ _ _ _ _ us hl => match us, hl with | [_, _], _ => rfl
theorem bd_is_place : BindOk f_is_place := fun _ _ _ _ _ _ us hl => match us, hl with | [_, _, _], _ => rfl
theorem bd_is_chain_places : BindOk f_is_chain_places := fun _ _ _ _ _ _ us hl => match us, hl with | [_, _, _], _ => rfl
theorem bd_chain_lot : BindOk f_chain_lot := fun _ _ _ _ _ _ us hl => match us, hl with | [_, _, _], _ => rfl
theorem bd_things_ahead : BindOk f_things_ahead := fun _ _ _ _ _ _ us hl => match us, hl with | [_, _, _], _ => rfl
theorem bd_even_number : BindOk f_even_number := fun _ _ _ _ _ _ us hl => match us, hl with | [_, _, _], _ => rfl
theorem bd_even_sum : BindOk f_even_sum := fun _ _ _ _ _ _ us hl => match us, hl with | [_, _, _, _], _ => rfl
theorem bd_even_place : BindOk f_even_place := fun _ _ _ _ _ _ us hl => match us, hl with | [_, _, _], _ => rfl
theorem bd_inverse : BindOk f_inverse := fun _ _ _ _ _ _ us hl => match us, hl with | [_, _], _ => rfl
theorem bd_put_together : BindOk f_put_together := fun _ _ _ _ _ _ us hl => match us, hl with | [_, _, _, _], _ => rfl
theorem bd_meeting_day : BindOk f_meeting_day := fun _ _ _ _ _ _ us hl => match us, hl with | [_, _, _], _ => rfl
theorem bd_period_lot : BindOk f_period_lot := fun _ _ _ _ _ _ us hl => match us, hl with | [_, _, _], _ => rfl
theorem bd_common_period : BindOk f_common_period := fun _ _ _ _ _ _ us hl => match us, hl with | [_], _ => rfl
theorem bd_keeps_gap : BindOk f_keeps_gap := fun _ _ _ _ _ _ us hl => match us, hl with | [_, _, _], _ => rfl
theorem bd_keeps_gaps : BindOk f_keeps_gaps := fun _ _ _ _ _ _ us hl => match us, hl with | [_, _, _], _ => rfl
theorem bd_check_kinds : BindOk f_check_kinds := fun _ _ _ _ _ _ us hl => match us, hl with | [_, _], _ => rfl
theorem bd_both_kinds : BindOk f_both_kinds := fun _ _ _ _ _ _ us hl => match us, hl with | [_], _ => rfl
theorem bd_by_turns : BindOk f_by_turns := fun _ _ _ _ _ _ us hl => match us, hl with | [_, _, _], _ => rfl
theorem bd_two_kinds_lot : BindOk f_two_kinds_lot := fun _ _ _ _ _ _ us hl => match us, hl with | [_, _, _], _ => rfl
theorem bd_two_kinds_days : BindOk f_two_kinds_days := fun _ _ _ _ _ _ us hl => match us, hl with | [_, _, _, _, _], _ => rfl
theorem bd_L_pool : BindOk f_L_pool := fun _ _ _ _ _ _ us hl => match us, hl with | [_], _ => rfl
theorem bd_L_draw : BindOk f_L_draw := fun _ _ _ _ _ _ us hl => match us, hl with | [_, _], _ => rfl
theorem bd_L_shuffled : BindOk f_L_shuffled := fun _ _ _ _ _ _ us hl => match us, hl with | [_, _], _ => rfl
theorem bd_L_same : BindOk f_L_same := fun _ _ _ _ _ _ us hl => match us, hl with | [_, _], _ => rfl
theorem bd_L_day : BindOk f_L_day := fun _ _ _ _ _ _ us hl => match us, hl with | [_], _ => rfl
theorem bd_L_plans : BindOk f_L_plans := fun _ _ _ _ _ _ us hl => match us, hl with | [_], _ => rfl
theorem bd_L_factor : BindOk f_L_factor := fun _ _ _ _ _ _ us hl => match us, hl with | [_, _], _ => rfl
theorem bd_L_met : BindOk f_L_met := fun _ _ _ _ _ _ us hl => match us, hl with | [_, _, _], _ => rfl
theorem bd_L_periods : BindOk f_L_periods := fun _ _ _ _ _ _ us hl => match us, hl with | [_], _ => rfl
theorem bd_L_chains : BindOk f_L_chains := fun _ _ _ _ _ _ us hl => match us, hl with | [_], _ => rfl
theorem bd_L_lot : BindOk f_L_lot := fun _ _ _ _ _ _ us hl => match us, hl with | [_, _, _], _ => rfl
theorem bd_L_kinds : BindOk f_L_kinds := fun _ _ _ _ _ _ us hl => match us, hl with | [_], _ => rfl
theorem bd_law : BindOk f_law := fun _ _ _ _ _ _ us hl => match us, hl with | [_], _ => rfl
theorem bd_all : ∀ f ∈ fs, BindOk f := by
  unfold fs
  refine (List.forall_mem_cons.mpr ⟨bd_fraction, (List.forall_mem_cons.mpr ⟨bd_sum_of_shares, (List.forall_mem_cons.mpr ⟨bd_done_days, (List.forall_mem_cons.mpr ⟨bd_plan_lot, (List.forall_mem_cons.mpr ⟨bd_moved_plan, (List.forall_mem_cons.mpr ⟨bd_is_whole, (List.forall_mem_cons.mpr ⟨bd_is_pair, (List.forall_mem_cons.mpr ⟨bd_is_whole_pair, (List.forall_mem_cons.mpr ⟨bd_is_full, (List.forall_mem_cons.mpr ⟨bd_is_place, (List.forall_mem_cons.mpr ⟨bd_is_chain_places, (List.forall_mem_cons.mpr ⟨bd_chain_lot, (List.forall_mem_cons.mpr ⟨bd_things_ahead, (List.forall_mem_cons.mpr ⟨bd_even_number, (List.forall_mem_cons.mpr ⟨bd_even_sum, (List.forall_mem_cons.mpr ⟨bd_even_place, (List.forall_mem_cons.mpr ⟨bd_inverse, (List.forall_mem_cons.mpr ⟨bd_put_together, (List.forall_mem_cons.mpr ⟨bd_meeting_day, (List.forall_mem_cons.mpr ⟨bd_period_lot, (List.forall_mem_cons.mpr ⟨bd_common_period, (List.forall_mem_cons.mpr ⟨bd_keeps_gap, (List.forall_mem_cons.mpr ⟨bd_keeps_gaps, (List.forall_mem_cons.mpr ⟨bd_check_kinds, (List.forall_mem_cons.mpr ⟨bd_both_kinds, (List.forall_mem_cons.mpr ⟨bd_by_turns, (List.forall_mem_cons.mpr ⟨bd_two_kinds_lot, (List.forall_mem_cons.mpr ⟨bd_two_kinds_days, (List.forall_mem_cons.mpr ⟨bd_L_pool, (List.forall_mem_cons.mpr ⟨bd_L_draw, (List.forall_mem_cons.mpr ⟨bd_L_shuffled, (List.forall_mem_cons.mpr ⟨bd_L_same, (List.forall_mem_cons.mpr ⟨bd_L_day, (List.forall_mem_cons.mpr ⟨bd_L_plans, (List.forall_mem_cons.mpr ⟨bd_L_factor, (List.forall_mem_cons.mpr ⟨bd_L_met, (List.forall_mem_cons.mpr ⟨bd_L_periods, (List.forall_mem_cons.mpr ⟨bd_L_chains, (List.forall_mem_cons.mpr ⟨bd_L_lot, (List.forall_mem_cons.mpr ⟨bd_L_kinds, (List.forall_mem_cons.mpr ⟨bd_law, (fun _ h => by cases h)⟩)⟩)⟩)⟩)⟩)⟩)⟩)⟩)⟩)⟩)⟩)⟩)⟩)⟩)⟩)⟩)⟩)⟩)⟩)⟩)⟩)⟩)⟩)⟩)⟩)⟩)⟩)⟩)⟩)⟩)⟩)⟩)⟩)⟩)⟩)⟩)⟩)⟩)⟩)⟩)⟩)
theorem bk_0 : KBindOk f_chain_lot ["day", "places", "gaps"] [2, 1, 0] := fun _ _ _ _ _ _ ws hl => match ws, hl with | [_, _, _], _ => rfl
theorem kws_all : KwsOk fs kt := kws_of (by
  unfold kt
  exact (List.forall_mem_cons.mpr ⟨⟨f_chain_lot, rfl, rfl, rfl, by decide, bk_0⟩, (fun _ h => by cases h)⟩))
theorem ck_all : fs.all (ckF ⟨tabF fs 0, gcl, csl, kt⟩) = true := by decide +kernel
abbrev R : PySem.W.OpenRow := PySem.W.OpenLaw.row PySem.Challenge.rw_nogapmissed_k99_whole_far
abbrev hk : PySem.W.Hook := hookX 4 (faOf fs csl) (ddOf fs) gcl
def ob (s : PySem.W.SharedT) : AlX := obsXG 4 (faOf fs csl) (ddOf fs) gcl (HandSHeadRun.getT s)
theorem ob_eq (s : PySem.W.SharedT) : ob s = hk.obs s.abs := obsXG_eq (HandSHeadRun.getT_eq s)
def lo0 : List Str := ["fraction", "sum_of_shares", "done_days", "plan_lot", "moved_plan", "GapError", "BadStep", "is_whole", "is_pair", "is_whole_pair", "is_full", "is_place", "is_chain_places", "chain_lot", "things_ahead", "even_number", "even_sum", "even_place", "inverse", "put_together", "meeting_day", "period_lot", "common_period", "keeps_gap", "keeps_gaps", "check_kinds", "both_kinds", "by_turns", "two_kinds_lot", "two_kinds_days"]
def lo1 : List Str := ["_law_pool", "_law_draw", "_law_shuffled", "_law_same", "_law_day", "_law_plans", "_law_factor", "_law_met", "_law_periods", "_law_chains", "_law_lot", "_law_kinds"]
abbrev los : List Str := lo0 ++ lo1
theorem run (w : World) : HandSHeadRun.RunEqI R (PySem.W.view R.prog [0, 56]) hk ob 8000 los w := by
  unfold HandSHeadRun.RunEqI
  kernel_rfl
end T
end Nog
open PySem PySem.W PySem.Calls PyProof.Rows
set_option maxRecDepth 100000 in
set_option maxHeartbeats 0 in
theorem PySem.Challenge.cw_nogapmissed_k99_whole_far_holds : PySem.Challenge.rw_nogapmissed_k99_whole_far.Holds := by
  w_on; o_law
  refine HandSHeadRun.head_imp (r := OpenLaw.row PySem.Challenge.rw_nogapmissed_k99_whole_far) (q := view (OpenLaw.row PySem.Challenge.rw_nogapmissed_k99_whole_far).prog [0, 56]) (H := Nog.T.hk) (ob := Nog.T.ob) (M := 8000) (loose := Nog.T.los) (d := HandSHeadRun.topDef (OpenLaw.row PySem.Challenge.rw_nogapmissed_k99_whole_far).prog 56) (kwd := []) Nog.T.ob_eq
    Nog.T.run (by kernel_rfl) (by kernel_rfl) (by kernel_rfl) (by rfl) (by first | assumption | decide +kernel) (by decide +kernel) ⟨rfl, rfl, rfl, rfl, rfl, by decide +kernel⟩ ?hw ?hc
  case hw => w_witness2
  case hc =>
    refine L2.walk_ofE (l := PySem.Challenge.rw_nogapmissed_k99_whole_far) (n := 63) (k := 20 + 1) (x := "script") (CX := C8.CX0) rfl (by decide) (by kernel_rfl) ⟨rfl, by decide, by decide⟩ ?F (fun _ _ _ _ z => z)
    intro w mg fa h Y G hmg0
    obtain ⟨K, KX, c⟩ := Y
    have hmg : mg Nog.T.f_law.name = some (.ref fa) := by
      have e : (HandSHeadRun.topDef (OpenLaw.row PySem.Challenge.rw_nogapmissed_k99_whole_far).prog 56).name = ("law" : PySem.Str) := by kernel_rfl
      rw [e] at hmg0
      exact hmg0
    obtain ⟨fd, sp, h1, h2, h3⟩ := Nog.law_facts (P := (PySem.Challenge.rw_nogapmissed_k99_whole_far).prog) (w := w) (k := 20) (i := Nog.T.i_law) KX G c Nog.T.ck_all Nog.T.bd_all Nog.T.kws_all rfl rfl rfl hmg Nog.T.main
    exact ⟨K, fd, sp, KX, h1, h2, h3⟩

